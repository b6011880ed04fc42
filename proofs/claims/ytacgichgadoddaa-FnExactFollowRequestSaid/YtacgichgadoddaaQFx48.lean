/- Go functions as Lean functions, each with its walk; printed by a program of this session (a scratch copy of print.py that follows nested field addresses and tells a law for the answer true). -/
import Derived.Test.YtacgichgadoddaaQFx0
import Derived.Test.YtacgichgadoddaaQFx10
import Derived.Test.YtacgichgadoddaaQFx11
import Derived.Test.YtacgichgadoddaaQFx24
import Derived.Test.YtacgichgadoddaaQFx41
import Derived.Test.YtacgichgadoddaaQFx43
import Derived.Test.YtacgichgadoddaaQFxM0
import Derived.Test.YtacgichgadoddaaQFxM1
import Derived.Test.YtacgichgadoddaaQFxM2
namespace Go.Proofs.Ytacgichgadoddaa.QF
open Go.RowKit Go.Proofs.YtacgichgadoddaaW.PrintWords Go.Proofs.YtacgichgadoddaaW.PrintLast Go.Proofs.YtacgichgadoddaaW.PrintMore Go.Proofs.Ytacgichgadoddaa.Short
attribute [local go_sem] max2_int min2_int max_two min_two max_three min_three max_four min_four 
set_option linter.unusedVariables false
set_option linter.unusedSimpArgs false

/-! ### laws_FnExactFollowRequest: function 13 -/
def laws_FnExactFollowRequest.j0 : Nat → List (S27) → Bool → Int → Int → Int → Int → Int → Int → List (S33) → Int → Int → Int → List (S33) → Option (Bool)
 | 0, _, _, _, _, _, _, _, _, _, _, _, _, _ => none
 | k + 1, x0, x48, x287000, x287001, x287002, x301000, x301001, x301002, x301003, x314000, x314001, x314002, x314003 => if x48 = true then (some false) else ((laws_markOutcome.f k x314000 x314001 x314002 x314003 1).bind fun bt322 => ((laws_heldOutcome.f k x314000 x314001 x314002 bt322.2 1).bind fun t324 => (if t324 < 0 then (some false) else (if t324 = bt322.1 then ((laws_toRuleS.f k x0).bind fun t325 => ((laws_toRequest.f x287000 x287001 x287002).bind fun bt328 => ((impl_FollowRequest.f k t325 bt328.1 bt328.2.1 bt328.2.2).bind fun bt331 => ((laws_eqOutcome.f k bt331.1 bt331.2.1 bt331.2.2.1 bt331.2.2.2 x301000 x301001 x301002 x301003).bind fun t338 => (if t338 = true then ((laws_heldOutcome.f k x314000 x314001 x314002 bt322.2 1).bind fun t339 => (if t339 < 0 then (some false) else (if t339 = bt322.1 then (some true) else (some false)))) else (some false)))))) else (some false)))))
def laws_FnExactFollowRequest.f (k : Nat) (l0 : List (S27)) (a1_0 : Int) (a1_1 : Int) (a1_2 : Int) : Option (Bool) := (laws_szRuleS.f l0 1048576).bind fun t287 => (if t287 < 0 then (some true) else ((laws_toRuleS.f k l0).bind fun t288 => ((laws_toRequest.f a1_0 a1_1 a1_2).bind fun bt291 => ((spec_FollowRequest.f k t288 bt291.1 bt291.2.1 bt291.2.2).bind fun bt294 => ((laws_toRuleS.f k l0).bind fun t301 => ((laws_toRequest.f a1_0 a1_1 a1_2).bind fun bt304 => ((impl_FollowRequest.f k t301 bt304.1 bt304.2.1 bt304.2.2).bind fun bt307 => ((laws_eqOutcome.f k bt307.1 bt307.2.1 bt307.2.2.1 bt307.2.2.2 bt294.1 bt294.2.1 bt294.2.2.1 bt294.2.2.2).bind fun t314 => (if t314 = true then ((laws_toRuleS.f k l0).bind fun t315 => ((laws_eqRuleS.f k t301 t315).bind fun t318 => (if t318 = true then ((laws_markRuleS.f k t301 1).bind fun bt319 => (if bt319.1 < 0 then (laws_FnExactFollowRequest.j0 k l0 true a1_0 a1_1 a1_2 bt294.1 bt294.2.1 bt294.2.2.1 bt294.2.2.2 bt307.1 bt307.2.1 bt307.2.2.1 bt307.2.2.2) else ((laws_eqOutcome.f k bt307.1 bt307.2.1 bt307.2.2.1 bt307.2.2.2 bt294.1 bt294.2.1 bt294.2.2.1 bt294.2.2.2).bind fun t321 => (laws_FnExactFollowRequest.j0 k l0 (!t321) a1_0 a1_1 a1_2 bt294.1 bt294.2.1 bt294.2.2.1 bt294.2.2.2 bt307.1 bt307.2.1 bt307.2.2.1 bt307.2.2.2)))) else (some false)))) else (some false))))))))))
set_option maxHeartbeats 8000000 in
set_option maxRecDepth 100000 in
theorem laws_FnExactFollowRequest.calls (k : Nat) (A0 : Option Addr) (c0 : Nat) (l0 : List (S27)) (a1_0 : Int) (a1_1 : Int) (a1_2 : Int) (r : Bool) (w : World) (hr0 : Kd.C k27 w A0 l0.length l0) (hc0 : l0.length ≤ c0) (h : laws_FnExactFollowRequest.f k l0 a1_0 a1_1 a1_2 = some r) (hr_ : r = true) :
  Calls Try.prog 13 #[.slice A0 l0.length c0, .agg #[.int .i64 a1_0, .int .i64 a1_1, .int .i64 a1_2]] w fun e w' => e = .returned (.bool r) ∧ Below w.heap.size w w' := by
 have HRT := Aside0.mk hr_
 clear hr_
 have hu94 := Try.underlying94
 have hu105 := Try.underlying105
 have HR0 := Aside0.mk hr0
 have HC0 := Aside0.mk hc0
 clear hr0 hc0
 have HB := am (Below.refl w.heap.size w)
 have H : ((laws_szRuleS.f l0 1048576).bind fun t287 => (if t287 < 0 then (some true) else ((laws_toRuleS.f k l0).bind fun t288 => ((laws_toRequest.f a1_0 a1_1 a1_2).bind fun bt291 => ((spec_FollowRequest.f k t288 bt291.1 bt291.2.1 bt291.2.2).bind fun bt294 => ((laws_toRuleS.f k l0).bind fun t301 => ((laws_toRequest.f a1_0 a1_1 a1_2).bind fun bt304 => ((impl_FollowRequest.f k t301 bt304.1 bt304.2.1 bt304.2.2).bind fun bt307 => ((laws_eqOutcome.f k bt307.1 bt307.2.1 bt307.2.2.1 bt307.2.2.2 bt294.1 bt294.2.1 bt294.2.2.1 bt294.2.2.2).bind fun t314 => (if t314 = true then ((laws_toRuleS.f k l0).bind fun t315 => ((laws_eqRuleS.f k t301 t315).bind fun t318 => (if t318 = true then ((laws_markRuleS.f k t301 1).bind fun bt319 => (if bt319.1 < 0 then (laws_FnExactFollowRequest.j0 k l0 true a1_0 a1_1 a1_2 bt294.1 bt294.2.1 bt294.2.2.1 bt294.2.2.2 bt307.1 bt307.2.1 bt307.2.2.1 bt307.2.2.2) else ((laws_eqOutcome.f k bt307.1 bt307.2.1 bt307.2.2.1 bt307.2.2.2 bt294.1 bt294.2.1 bt294.2.2.1 bt294.2.2.2).bind fun t321 => (laws_FnExactFollowRequest.j0 k l0 (!t321) a1_0 a1_1 a1_2 bt294.1 bt294.2.1 bt294.2.2.1 bt294.2.2.2 bt307.1 bt307.2.1 bt307.2.2.1 bt307.2.2.2)))) else (some false)))) else (some false))))))))))) = some r := h
 clear h
 replace H := Option.bind_eq_some_iff.mp H
 obtain ⟨t287, A30, H⟩ := H
 replace H : (if t287 < 0 then (some true) else ((laws_toRuleS.f k l0).bind fun t288 => ((laws_toRequest.f a1_0 a1_1 a1_2).bind fun bt291 => ((spec_FollowRequest.f k t288 bt291.1 bt291.2.1 bt291.2.2).bind fun bt294 => ((laws_toRuleS.f k l0).bind fun t301 => ((laws_toRequest.f a1_0 a1_1 a1_2).bind fun bt304 => ((impl_FollowRequest.f k t301 bt304.1 bt304.2.1 bt304.2.2).bind fun bt307 => ((laws_eqOutcome.f k bt307.1 bt307.2.1 bt307.2.2.1 bt307.2.2.2 bt294.1 bt294.2.1 bt294.2.2.1 bt294.2.2.2).bind fun t314 => (if t314 = true then ((laws_toRuleS.f k l0).bind fun t315 => ((laws_eqRuleS.f k t301 t315).bind fun t318 => (if t318 = true then ((laws_markRuleS.f k t301 1).bind fun bt319 => (if bt319.1 < 0 then (laws_FnExactFollowRequest.j0 k l0 true a1_0 a1_1 a1_2 bt294.1 bt294.2.1 bt294.2.2.1 bt294.2.2.2 bt307.1 bt307.2.1 bt307.2.2.1 bt307.2.2.2) else ((laws_eqOutcome.f k bt307.1 bt307.2.1 bt307.2.2.1 bt307.2.2.2 bt294.1 bt294.2.1 bt294.2.2.1 bt294.2.2.2).bind fun t321 => (laws_FnExactFollowRequest.j0 k l0 (!t321) a1_0 a1_1 a1_2 bt294.1 bt294.2.1 bt294.2.2.1 bt294.2.2.2 bt307.1 bt307.2.1 bt307.2.2.1 bt307.2.2.2)))) else (some false)))) else (some false)))))))))) = some r := H
 have A3 := Aside0.mk A30
 clear A30
 by_cases c4 : t287 < 0
 ·rw [if_pos c4] at H
  have c4b0 : decide (t287 < 0) = true := decide_eq_true c4
  clear c4
  obtain rfl := Option.some.inj H
  go_enter Try.func13, Try.ntmps13
  go_wp2_with (first | ((with_reducible refine gate_dst (N := 3) rfl ?_); refine box_event ?hg (N := 3) ?hd (cs := #[.int .i64 a1_0, .int .i64 a1_1, .int .i64 a1_2]) (t := 94) ?hr ?_; (case hd => rfl); (case hg => rfl); (case hr => first | (go_simp; done) | (go_simp; rfl)); intro gb286 hg w5 hbox hb; have q_ := hbx_ (by repeat (first | (with_reducible first | exact HB.out | apply eA | apply eN | apply eD) | exact HB.out)) hg hb; have n0_ := q_.1; have n1_ := am (hbox); have n2_ := q_.2; have n3_ := n2_; clear HB; have HB := n0_; have BK286 := n1_; have GW286 := n2_; have GE286 := n3_; clear n0_ n1_ n2_ n3_ hb hbox hg) | ((with_reducible refine gate_callee (f := 15) rfl ?_); refine goesL_ (some 15) rfl rfl Try.func15 (by kernel_rfl) rfl #[.slice A0 l0.length c0, .int .i64 1048576] rfl (by (try simp only [List.map_toArray, List.map_cons, List.map_nil]); first | done | rfl | (simp only [List.length_drop, List.length_take]; rfl)) ?_; (with_reducible refine (laws_szRuleS.calls _ _ l0 1048576 t287 _ ?side1 ?side2 A3.out).mono ?_); (case side1 => repeat (first | exact (Kd.C_below HR0.out HB.out) | (with_reducible refine Kd.C_alloc ?_ _) | (with_reducible refine Kd.C_drewN ?_ _) | (with_reducible refine Kd.C_drew ?_))); (case side2 => exact HC0.out); rintro e w' ⟨rfl, ⟨nd, rfl⟩⟩; refine ⟨_, rfl, ?_⟩))
  go_ret
  exact ⟨by first | rfl | (simp [errW_none, errW_some] <;> rfl) | (simp [*, errW_none, errW_some] <;> rfl), by repeat (first | (with_reducible first | exact HB.out | apply eA | apply eN | apply eD | refine eS ?_ GE286.out) | exact HB.out)⟩
 ·rw [if_neg c4] at H
  have c4b0 : decide (t287 < 0) = false := decide_eq_false c4
  clear c4
  replace H := Option.bind_eq_some_iff.mp H
  obtain ⟨t288, A60, H⟩ := H
  replace H : ((laws_toRequest.f a1_0 a1_1 a1_2).bind fun bt291 => ((spec_FollowRequest.f k t288 bt291.1 bt291.2.1 bt291.2.2).bind fun bt294 => ((laws_toRuleS.f k l0).bind fun t301 => ((laws_toRequest.f a1_0 a1_1 a1_2).bind fun bt304 => ((impl_FollowRequest.f k t301 bt304.1 bt304.2.1 bt304.2.2).bind fun bt307 => ((laws_eqOutcome.f k bt307.1 bt307.2.1 bt307.2.2.1 bt307.2.2.2 bt294.1 bt294.2.1 bt294.2.2.1 bt294.2.2.2).bind fun t314 => (if t314 = true then ((laws_toRuleS.f k l0).bind fun t315 => ((laws_eqRuleS.f k t301 t315).bind fun t318 => (if t318 = true then ((laws_markRuleS.f k t301 1).bind fun bt319 => (if bt319.1 < 0 then (laws_FnExactFollowRequest.j0 k l0 true a1_0 a1_1 a1_2 bt294.1 bt294.2.1 bt294.2.2.1 bt294.2.2.2 bt307.1 bt307.2.1 bt307.2.2.1 bt307.2.2.2) else ((laws_eqOutcome.f k bt307.1 bt307.2.1 bt307.2.2.1 bt307.2.2.2 bt294.1 bt294.2.1 bt294.2.2.1 bt294.2.2.2).bind fun t321 => (laws_FnExactFollowRequest.j0 k l0 (!t321) a1_0 a1_1 a1_2 bt294.1 bt294.2.1 bt294.2.2.1 bt294.2.2.2 bt307.1 bt307.2.1 bt307.2.2.1 bt307.2.2.2)))) else (some false)))) else (some false)))))))) = some r := H
  have A6 := Aside0.mk A60
  clear A60
  replace H := Option.bind_eq_some_iff.mp H
  obtain ⟨⟨t291, t292, t293⟩, A70, H⟩ := H
  replace H : ((spec_FollowRequest.f k t288 t291 t292 t293).bind fun bt294 => ((laws_toRuleS.f k l0).bind fun t301 => ((laws_toRequest.f a1_0 a1_1 a1_2).bind fun bt304 => ((impl_FollowRequest.f k t301 bt304.1 bt304.2.1 bt304.2.2).bind fun bt307 => ((laws_eqOutcome.f k bt307.1 bt307.2.1 bt307.2.2.1 bt307.2.2.2 bt294.1 bt294.2.1 bt294.2.2.1 bt294.2.2.2).bind fun t314 => (if t314 = true then ((laws_toRuleS.f k l0).bind fun t315 => ((laws_eqRuleS.f k t301 t315).bind fun t318 => (if t318 = true then ((laws_markRuleS.f k t301 1).bind fun bt319 => (if bt319.1 < 0 then (laws_FnExactFollowRequest.j0 k l0 true a1_0 a1_1 a1_2 bt294.1 bt294.2.1 bt294.2.2.1 bt294.2.2.2 bt307.1 bt307.2.1 bt307.2.2.1 bt307.2.2.2) else ((laws_eqOutcome.f k bt307.1 bt307.2.1 bt307.2.2.1 bt307.2.2.2 bt294.1 bt294.2.1 bt294.2.2.1 bt294.2.2.2).bind fun t321 => (laws_FnExactFollowRequest.j0 k l0 (!t321) a1_0 a1_1 a1_2 bt294.1 bt294.2.1 bt294.2.2.1 bt294.2.2.2 bt307.1 bt307.2.1 bt307.2.2.1 bt307.2.2.2)))) else (some false)))) else (some false))))))) = some r := H
  have A7 := Aside0.mk A70
  clear A70
  replace H := Option.bind_eq_some_iff.mp H
  obtain ⟨⟨t294, t295, t296, t297⟩, A80, H⟩ := H
  replace H : ((laws_toRuleS.f k l0).bind fun t301 => ((laws_toRequest.f a1_0 a1_1 a1_2).bind fun bt304 => ((impl_FollowRequest.f k t301 bt304.1 bt304.2.1 bt304.2.2).bind fun bt307 => ((laws_eqOutcome.f k bt307.1 bt307.2.1 bt307.2.2.1 bt307.2.2.2 t294 t295 t296 t297).bind fun t314 => (if t314 = true then ((laws_toRuleS.f k l0).bind fun t315 => ((laws_eqRuleS.f k t301 t315).bind fun t318 => (if t318 = true then ((laws_markRuleS.f k t301 1).bind fun bt319 => (if bt319.1 < 0 then (laws_FnExactFollowRequest.j0 k l0 true a1_0 a1_1 a1_2 t294 t295 t296 t297 bt307.1 bt307.2.1 bt307.2.2.1 bt307.2.2.2) else ((laws_eqOutcome.f k bt307.1 bt307.2.1 bt307.2.2.1 bt307.2.2.2 t294 t295 t296 t297).bind fun t321 => (laws_FnExactFollowRequest.j0 k l0 (!t321) a1_0 a1_1 a1_2 t294 t295 t296 t297 bt307.1 bt307.2.1 bt307.2.2.1 bt307.2.2.2)))) else (some false)))) else (some false)))))) = some r := H
  have A8 := Aside0.mk A80
  clear A80
  replace H := Option.bind_eq_some_iff.mp H
  obtain ⟨t301, A90, H⟩ := H
  replace H : ((laws_toRequest.f a1_0 a1_1 a1_2).bind fun bt304 => ((impl_FollowRequest.f k t301 bt304.1 bt304.2.1 bt304.2.2).bind fun bt307 => ((laws_eqOutcome.f k bt307.1 bt307.2.1 bt307.2.2.1 bt307.2.2.2 t294 t295 t296 t297).bind fun t314 => (if t314 = true then ((laws_toRuleS.f k l0).bind fun t315 => ((laws_eqRuleS.f k t301 t315).bind fun t318 => (if t318 = true then ((laws_markRuleS.f k t301 1).bind fun bt319 => (if bt319.1 < 0 then (laws_FnExactFollowRequest.j0 k l0 true a1_0 a1_1 a1_2 t294 t295 t296 t297 bt307.1 bt307.2.1 bt307.2.2.1 bt307.2.2.2) else ((laws_eqOutcome.f k bt307.1 bt307.2.1 bt307.2.2.1 bt307.2.2.2 t294 t295 t296 t297).bind fun t321 => (laws_FnExactFollowRequest.j0 k l0 (!t321) a1_0 a1_1 a1_2 t294 t295 t296 t297 bt307.1 bt307.2.1 bt307.2.2.1 bt307.2.2.2)))) else (some false)))) else (some false))))) = some r := H
  have A9 := Aside0.mk A90
  clear A90
  replace H := Option.bind_eq_some_iff.mp H
  obtain ⟨⟨t304, t305, t306⟩, A100, H⟩ := H
  replace H : ((impl_FollowRequest.f k t301 t304 t305 t306).bind fun bt307 => ((laws_eqOutcome.f k bt307.1 bt307.2.1 bt307.2.2.1 bt307.2.2.2 t294 t295 t296 t297).bind fun t314 => (if t314 = true then ((laws_toRuleS.f k l0).bind fun t315 => ((laws_eqRuleS.f k t301 t315).bind fun t318 => (if t318 = true then ((laws_markRuleS.f k t301 1).bind fun bt319 => (if bt319.1 < 0 then (laws_FnExactFollowRequest.j0 k l0 true a1_0 a1_1 a1_2 t294 t295 t296 t297 bt307.1 bt307.2.1 bt307.2.2.1 bt307.2.2.2) else ((laws_eqOutcome.f k bt307.1 bt307.2.1 bt307.2.2.1 bt307.2.2.2 t294 t295 t296 t297).bind fun t321 => (laws_FnExactFollowRequest.j0 k l0 (!t321) a1_0 a1_1 a1_2 t294 t295 t296 t297 bt307.1 bt307.2.1 bt307.2.2.1 bt307.2.2.2)))) else (some false)))) else (some false)))) = some r := H
  have A10 := Aside0.mk A100
  clear A100
  replace H := Option.bind_eq_some_iff.mp H
  obtain ⟨⟨t307, t308, t309, t310⟩, A110, H⟩ := H
  replace H : ((laws_eqOutcome.f k t307 t308 t309 t310 t294 t295 t296 t297).bind fun t314 => (if t314 = true then ((laws_toRuleS.f k l0).bind fun t315 => ((laws_eqRuleS.f k t301 t315).bind fun t318 => (if t318 = true then ((laws_markRuleS.f k t301 1).bind fun bt319 => (if bt319.1 < 0 then (laws_FnExactFollowRequest.j0 k l0 true a1_0 a1_1 a1_2 t294 t295 t296 t297 t307 t308 t309 t310) else ((laws_eqOutcome.f k t307 t308 t309 t310 t294 t295 t296 t297).bind fun t321 => (laws_FnExactFollowRequest.j0 k l0 (!t321) a1_0 a1_1 a1_2 t294 t295 t296 t297 t307 t308 t309 t310)))) else (some false)))) else (some false))) = some r := H
  have A11 := Aside0.mk A110
  clear A110
  replace H := Option.bind_eq_some_iff.mp H
  obtain ⟨t314, A120, H⟩ := H
  replace H : (if t314 = true then ((laws_toRuleS.f k l0).bind fun t315 => ((laws_eqRuleS.f k t301 t315).bind fun t318 => (if t318 = true then ((laws_markRuleS.f k t301 1).bind fun bt319 => (if bt319.1 < 0 then (laws_FnExactFollowRequest.j0 k l0 true a1_0 a1_1 a1_2 t294 t295 t296 t297 t307 t308 t309 t310) else ((laws_eqOutcome.f k t307 t308 t309 t310 t294 t295 t296 t297).bind fun t321 => (laws_FnExactFollowRequest.j0 k l0 (!t321) a1_0 a1_1 a1_2 t294 t295 t296 t297 t307 t308 t309 t310)))) else (some false)))) else (some false)) = some r := H
  have A12 := Aside0.mk A120
  clear A120
  by_cases c13 : t314 = true
  ·subst c13
   have H1 : ((laws_toRuleS.f k l0).bind fun t315 => ((laws_eqRuleS.f k t301 t315).bind fun t318 => (if t318 = true then ((laws_markRuleS.f k t301 1).bind fun bt319 => (if bt319.1 < 0 then (laws_FnExactFollowRequest.j0 k l0 true a1_0 a1_1 a1_2 t294 t295 t296 t297 t307 t308 t309 t310) else ((laws_eqOutcome.f k t307 t308 t309 t310 t294 t295 t296 t297).bind fun t321 => (laws_FnExactFollowRequest.j0 k l0 (!t321) a1_0 a1_1 a1_2 t294 t295 t296 t297 t307 t308 t309 t310)))) else (some false)))) = some r := by rw [if_pos rfl] at H; exact H
   clear H
   have H := H1
   clear H1
   replace H := Option.bind_eq_some_iff.mp H
   obtain ⟨t315, A140, H⟩ := H
   replace H : ((laws_eqRuleS.f k t301 t315).bind fun t318 => (if t318 = true then ((laws_markRuleS.f k t301 1).bind fun bt319 => (if bt319.1 < 0 then (laws_FnExactFollowRequest.j0 k l0 true a1_0 a1_1 a1_2 t294 t295 t296 t297 t307 t308 t309 t310) else ((laws_eqOutcome.f k t307 t308 t309 t310 t294 t295 t296 t297).bind fun t321 => (laws_FnExactFollowRequest.j0 k l0 (!t321) a1_0 a1_1 a1_2 t294 t295 t296 t297 t307 t308 t309 t310)))) else (some false))) = some r := H
   have A14 := Aside0.mk A140
   clear A140
   replace H := Option.bind_eq_some_iff.mp H
   obtain ⟨t318, A150, H⟩ := H
   replace H : (if t318 = true then ((laws_markRuleS.f k t301 1).bind fun bt319 => (if bt319.1 < 0 then (laws_FnExactFollowRequest.j0 k l0 true a1_0 a1_1 a1_2 t294 t295 t296 t297 t307 t308 t309 t310) else ((laws_eqOutcome.f k t307 t308 t309 t310 t294 t295 t296 t297).bind fun t321 => (laws_FnExactFollowRequest.j0 k l0 (!t321) a1_0 a1_1 a1_2 t294 t295 t296 t297 t307 t308 t309 t310)))) else (some false)) = some r := H
   have A15 := Aside0.mk A150
   clear A150
   by_cases c16 : t318 = true
   ·subst c16
    have H1 : ((laws_markRuleS.f k t301 1).bind fun bt319 => (if bt319.1 < 0 then (laws_FnExactFollowRequest.j0 k l0 true a1_0 a1_1 a1_2 t294 t295 t296 t297 t307 t308 t309 t310) else ((laws_eqOutcome.f k t307 t308 t309 t310 t294 t295 t296 t297).bind fun t321 => (laws_FnExactFollowRequest.j0 k l0 (!t321) a1_0 a1_1 a1_2 t294 t295 t296 t297 t307 t308 t309 t310)))) = some r := by rw [if_pos rfl] at H; exact H
    clear H
    have H := H1
    clear H1
    replace H := Option.bind_eq_some_iff.mp H
    obtain ⟨⟨t319, t320⟩, A170, H⟩ := H
    replace H : (if t319 < 0 then (laws_FnExactFollowRequest.j0 k l0 true a1_0 a1_1 a1_2 t294 t295 t296 t297 t307 t308 t309 t310) else ((laws_eqOutcome.f k t307 t308 t309 t310 t294 t295 t296 t297).bind fun t321 => (laws_FnExactFollowRequest.j0 k l0 (!t321) a1_0 a1_1 a1_2 t294 t295 t296 t297 t307 t308 t309 t310))) = some r := H
    have A17 := Aside0.mk A170
    clear A170
    have HC18 := Aside0.mk H
    clear H
    go_enter Try.func13, Try.ntmps13
    try go_wp2_with (first | ((with_reducible refine gate_dst (N := 3) rfl ?_); refine box_event ?hg (N := 3) ?hd (cs := #[.int .i64 a1_0, .int .i64 a1_1, .int .i64 a1_2]) (t := 94) ?hr ?_; (case hd => rfl); (case hg => rfl); (case hr => first | (go_simp; done) | (go_simp; rfl)); intro gb286 hg w19 hbox hb; have q_ := hbx_ (by repeat (first | (with_reducible first | exact HB.out | apply eA | apply eN | apply eD) | exact HB.out)) hg hb; have n0_ := q_.1; have n1_ := am (hbox); have n2_ := q_.2; have n3_ := n2_; clear HB; have HB := n0_; have BK286 := n1_; have GW286 := n2_; have GE286 := n3_; clear n0_ n1_ n2_ n3_ hb hbox hg) | ((with_reducible refine gate_callee (f := 15) rfl ?_); refine goesL_ (some 15) rfl rfl Try.func15 (by kernel_rfl) rfl #[.slice A0 l0.length c0, .int .i64 1048576] rfl (by (try simp only [List.map_toArray, List.map_cons, List.map_nil]); first | done | rfl | (simp only [List.length_drop, List.length_take]; rfl)) ?_; (with_reducible refine (laws_szRuleS.calls _ _ l0 1048576 t287 _ ?side1 ?side2 A3.out).mono ?_); (case side1 => repeat (first | exact (Kd.C_below HR0.out HB.out) | (with_reducible refine Kd.C_alloc ?_ _) | (with_reducible refine Kd.C_drewN ?_ _) | (with_reducible refine Kd.C_drew ?_))); (case side2 => exact HC0.out); rintro e w' ⟨rfl, ⟨nd, rfl⟩⟩; refine ⟨_, rfl, ?_⟩; (try (rw [drewN_self w19]; generalize hq_ : World.drewN w19 _ = w19; have n0_ : Aside0 (w19.heap[gb286]? = some (.cells #[.int .i64 a1_0, .int .i64 a1_1, .int .i64 a1_2] 94 (0, 0))) := ⟨by rw [← hq_]; exact (by (with_reducible repeat (first | apply bN | apply bD | apply bA)); exact BK286.out)⟩; have n1_ : Aside0 (Below w.heap.size w w19) := ⟨by rw [← hq_]; exact (by repeat (first | (with_reducible first | exact HB.out | apply eA | apply eN | apply eD | refine eS ?_ GE286.out) | exact HB.out))⟩; clear BK286 HB hq_; have BK286 := n0_; have HB := n1_; clear n0_ n1_))))
    have n0_ := am (blk_drew BK286.out)
    have n1_ := am (below_drew1 HB.out)
    clear BK286
    clear HB
    have BK286 := n0_
    have HB := n1_
    clear n0_ n1_
    refine start_ (n := 7) (S := fun w' => w'.cell? ⟨gb286, 0, none⟩ = some (.int .i64 a1_0) ∧ w'.cell? ⟨gb286, 1, none⟩ = some (.int .i64 a1_1) ∧ w'.cell? ⟨gb286, 2, none⟩ = some (.int .i64 a1_2)) (ds := []) #[false, false, false, false, false, false, false] (by kernel_rfl) rfl rfl ⟨(blk_cell BK286.out 0).trans rfl, (blk_cell BK286.out 1).trans rfl, (blk_cell BK286.out 2).trans rfl⟩ (fun hHeld => ?_)
    generalize w19.drew = w20 at BK286 HB hHeld ⊢
    refine pure_ (i := 0) (N := some 18) (v := ?_) (a' := ?_) #[true, false, false, false, false, false, false] rfl rfl (by kernel_rfl) (fun _ _ _ h => h) (Or.inl ⟨by rfl, ?_⟩) ?_ ?_
    rotate_left
    ·intro w'
     go_simp
     with_reducible rfl
    rotate_left
    ·simp only [Act.put, List.setIfInBounds_toArray, List.set_cons_zero, List.set_cons_succ, i64_w, i32_w]
     rfl
    refine take_ (i := 2) (N := some 20) (v := ?_) (a' := ?_) #[true, false, true, false, false, false, false] rfl rfl (by kernel_rfl) (fun _ _ _ h => h) (Or.inl ⟨by rfl, ?_⟩) hHeld ?_ ?_
    rotate_left
    ·rintro w' ⟨s0, s1, s2⟩
     go_simp
     with_reducible rfl
    rotate_left
    ·simp only [Act.put, List.setIfInBounds_toArray, List.set_cons_zero, List.set_cons_succ, i64_w, i32_w]
     rfl
    refine join_ (σ := Value × Value × Nat) 1 #[true, true, true, true, true, true, false] (fun s_ => [(19, s_.1), (21, .agg #[.int .i64 t291, .int .i64 t292, .int .i64 t293]), (22, .agg #[.int .i64 t294, .int .i64 t295, .int .i64 t296, s_.2.1]), (6, .pointer (some ⟨s_.2.2, 0, none⟩))]) (fun s_ w' => (w'.cell? ⟨gb286, 0, none⟩ = some (.int .i64 a1_0) ∧ w'.cell? ⟨gb286, 1, none⟩ = some (.int .i64 a1_1) ∧ w'.cell? ⟨gb286, 2, none⟩ = some (.int .i64 a1_2)) ∧ (Kd.R k35 35 w' w.heap.size (fun _ => True) s_.1 t288) ∧ (Kd.R k33 33 w' w.heap.size (fun _ => True) s_.2.1 t297) ∧ (w'.heap[gb286]? = some (.cells #[.int .i64 a1_0, .int .i64 a1_1, .int .i64 a1_2] 94 (0, 0))) ∧ (w'.heap[s_.2.2]? = some (.cells #[.int .i64 0, .int .i64 0, .int .i64 0, .slice none 0 0] 105 (0, 0))) ∧ (w.heap.size ≤ s_.2.2) ∧ (w.heap.size ≤ s_.2.2) ∧ (gb286 ≠ s_.2.2) ∧ (s_.2.2 ≠ gb286) ∧ (Below w.heap.size w w')) ?_ ?_
    rotate_left
    ·intro hCont
     refine two_ (i := 1) (j := 5) (Ni := some 19) (Nj := some 6) #[true, true, true, false, false, false, false] #[true, false, true, false, false, true, false] rfl rfl rfl rfl (by kernel_rfl) (by decide) (by decide) (fun K hK => ?_) (fun K hK => ?_)
     ·skip
      refine goes_ Try.func17 (by kernel_rfl) rfl #[.slice A0 l0.length c0] (by rfl) rfl rfl (by (try simp only [List.map_toArray, List.map_cons, List.map_nil]); first | done | rfl | (simp only [List.length_drop, List.length_take]; rfl)) ?_
      with_reducible refine (laws_toRuleS.calls k _ _ l0 t288 _ ?side1 ?side2 A6.out).mono ?_
      (case side1 => repeat (first | exact (Kd.C_below HR0.out HB.out) | (with_reducible refine Kd.C_alloc ?_ _) | (with_reducible refine Kd.C_drewN ?_ _) | (with_reducible refine Kd.C_drew ?_)))
      (case side2 => exact HC0.out)
      rintro e w21 ⟨v289, rfl, ho0, hb⟩
      refine ⟨_, rfl, ?_⟩
      have n0_ := am (Kd.R_lower ho0 (below_size (by repeat (first | (with_reducible first | exact HB.out | apply eA | apply eN | apply eD | refine eS ?_ GE286.out) | exact HB.out))))
      have n1_ := am (blk_below (by (with_reducible repeat (first | apply bN | apply bD | apply bA)); exact BK286.out) hb)
      have n2_ := am (below_step (by repeat (first | (with_reducible first | exact HB.out | apply eA | apply eN | apply eD | refine eS ?_ GE286.out) | exact HB.out)) hb)
      clear BK286
      clear HB
      have HO290 := n0_
      have BK286 := n1_
      have HB := n2_
      clear n0_ n1_ n2_
      (try clear hb)
      (try clear hb2)
      (try clear hk)
      (try clear hi)
      (try clear ho0)
      refine hK.out _ _ ⟨(blk_cell BK286.out 0).trans rfl, (blk_cell BK286.out 1).trans rfl, (blk_cell BK286.out 2).trans rfl⟩ (fun hHeld => ?_)
      clear hK K
      refine norm_ (a' := ?_) ?_ ?_
      rotate_left
      ·show Act.put _ (some 19) _ = _
       simp only [Act.put, List.setIfInBounds_toArray, List.set_cons_zero, List.set_cons_succ, i64_w, i32_w]
       rfl
      refine two_ (i := 3) (j := 5) (Ni := some 21) (Nj := some 6) #[true, true, true, true, false, false, false] #[true, true, true, false, false, true, false] rfl rfl rfl rfl (by kernel_rfl) (by decide) (by decide) (fun K hK => ?_) (fun K hK => ?_)
      ·skip
       refine goes_ Try.func67 (by kernel_rfl) rfl #[.agg #[.int .i64 a1_0, .int .i64 a1_1, .int .i64 a1_2]] (by rfl) rfl rfl (by (try simp only [List.map_toArray, List.map_cons, List.map_nil]); first | done | rfl | (simp only [List.length_drop, List.length_take]; rfl)) ?_
       with_reducible refine (laws_toRequest.calls a1_0 a1_1 a1_2 t291 t292 t293 _ A7.out).mono ?_
       rintro e w22 ⟨rfl, hb⟩
       refine ⟨_, rfl, ?_⟩
       have n0_ := am (Kd.R_below (by (with_reducible repeat (first | apply Kd.R_alloc | apply Kd.R_drewN | apply Kd.R_drew)); exact HO290.out) hb)
       have n1_ := am (blk_below (by (with_reducible repeat (first | apply bN | apply bD | apply bA)); exact BK286.out) hb)
       have n2_ := am (below_step (by repeat (first | (with_reducible first | exact HB.out | apply eA | apply eN | apply eD | refine eS ?_ GE286.out) | exact HB.out)) hb)
       clear HO290
       clear BK286
       clear HB
       have HO290 := n0_
       have BK286 := n1_
       have HB := n2_
       clear n0_ n1_ n2_
       (try clear hb)
       (try clear hb2)
       (try clear hk)
       (try clear hi)
       obtain ⟨Ao23, co23, eo23⟩ := Kd.R_slice HO290.out
       (first | subst eo23 | (injection eo23 with f1_ f2_ f3_; have f4_ := f1_.symm; have f5_ := f3_.symm; clear f1_ f2_ f3_; subst f4_; subst f5_))
       refine hK.out _ _ ⟨(blk_cell BK286.out 0).trans rfl, (blk_cell BK286.out 1).trans rfl, (blk_cell BK286.out 2).trans rfl⟩ (fun hHeld => ?_)
       clear hK K
       refine norm_ (a' := ?_) ?_ ?_
       rotate_left
       ·show Act.put _ (some 21) _ = _
        simp only [Act.put, List.setIfInBounds_toArray, List.set_cons_zero, List.set_cons_succ, i64_w, i32_w]
        rfl
       refine two_ (i := 4) (j := 5) (Ni := some 22) (Nj := some 6) #[true, true, true, true, true, false, false] #[true, true, true, true, false, true, false] rfl rfl rfl rfl (by kernel_rfl) (by decide) (by decide) (fun K hK => ?_) (fun K hK => ?_)
       ·skip
        refine goes_ Try.func74 (by kernel_rfl) rfl #[.slice Ao23 t288.length co23, .agg #[.int .i64 t291, .int .i64 t292, .int .i64 t293]] (by rfl) rfl rfl (by (try simp only [List.map_toArray, List.map_cons, List.map_nil]); first | done | rfl | (simp only [List.length_drop, List.length_take]; rfl)) ?_
        with_reducible refine (spec_FollowRequest.calls k _ _ t288 t291 t292 t293 t294 t295 t296 t297 _ ?side1 ?side2 A8.out).mono ?_
        (case side1 => repeat (first | exact (Kd.R_reads' HO290.out).2.2 | (with_reducible refine Kd.C_alloc ?_ _) | (with_reducible refine Kd.C_drewN ?_ _) | (with_reducible refine Kd.C_drew ?_)))
        (case side2 => exact (Kd.R_reads' HO290.out).2.1)
        rintro e w24 ⟨v298, rfl, ho0, hb⟩
        refine ⟨_, rfl, ?_⟩
        have n0_ := am (Kd.R_below (by (with_reducible repeat (first | apply Kd.R_alloc | apply Kd.R_drewN | apply Kd.R_drew)); exact HO290.out) hb)
        have n1_ := am (Kd.R_lower ho0 (below_size (by repeat (first | (with_reducible first | exact HB.out | apply eA | apply eN | apply eD | refine eS ?_ GE286.out) | exact HB.out))))
        have n2_ := am (blk_below (by (with_reducible repeat (first | apply bN | apply bD | apply bA)); exact BK286.out) hb)
        have n3_ := am (below_step (by repeat (first | (with_reducible first | exact HB.out | apply eA | apply eN | apply eD | refine eS ?_ GE286.out) | exact HB.out)) hb)
        clear HO290
        clear BK286
        clear HB
        have HO290 := n0_
        have HO299 := n1_
        have BK286 := n2_
        have HB := n3_
        clear n0_ n1_ n2_ n3_
        (try clear hb)
        (try clear hb2)
        (try clear hk)
        (try clear hi)
        (try clear ho0)
        refine hK.out _ _ ⟨(blk_cell BK286.out 0).trans rfl, (blk_cell BK286.out 1).trans rfl, (blk_cell BK286.out 2).trans rfl⟩ (fun hHeld => ?_)
        clear hK K
        refine norm_ (a' := ?_) ?_ ?_
        rotate_left
        ·show Act.put _ (some 22) _ = _
         simp only [Act.put, List.setIfInBounds_toArray, List.set_cons_zero, List.set_cons_succ, i64_w, i32_w]
         rfl
        refine one_ (i := 5) (N := some 6) #[true, true, true, true, true, true, false] rfl rfl (by kernel_rfl) (by decide) (fun K hK => ?_)
        refine box_step ?hg (N := 6) ?hd (cs := #[.int .i64 0, .int .i64 0, .int .i64 0, .slice none 0 0]) (t := 105) ?hr ?_; (case hd => rfl); (case hg => rfl); (case hr => first | (go_simp; done) | (go_simp; rfl))
        intro gb300 hg w25 hbox hb
        have n0_ := am (Kd.R_below (by (with_reducible repeat (first | apply Kd.R_alloc | apply Kd.R_drewN | apply Kd.R_drew)); exact HO290.out) hb)
        have n1_ := am (Kd.R_below (by (with_reducible repeat (first | apply Kd.R_alloc | apply Kd.R_drewN | apply Kd.R_drew)); exact HO299.out) hb)
        have n2_ := am (blk_below (by (with_reducible repeat (first | apply bN | apply bD | apply bA)); exact BK286.out) hb)
        have n3_ := am (below_step (by repeat (first | (with_reducible first | exact HB.out | apply eA | apply eN | apply eD | refine eS ?_ GE286.out) | exact HB.out)) hb)
        have n4_ := am (hbox)
        have n5_ := am ((by rw [hg]; exact (below_size (by repeat (first | (with_reducible first | exact HB.out | apply eA | apply eN | apply eD | refine eS ?_ GE286.out) | exact HB.out))) : w.heap.size ≤ gb300))
        have n6_ := am ((by rw [hg]; exact (below_size (by repeat (first | (with_reducible first | exact HB.out | apply eA | apply eN | apply eD | refine eS ?_ GE286.out) | exact HB.out))) : w.heap.size ≤ gb300))
        have n7_ := am ((by rw [hg]; exact Nat.ne_of_lt (blk_lt (g := gb286) (o := .cells #[.int .i64 a1_0, .int .i64 a1_1, .int .i64 a1_2] 94 (0, 0)) (by (with_reducible repeat (first | apply bN | apply bD | apply bA)); exact BK286.out)) : gb286 ≠ gb300))
        have n8_ := am ((by rw [hg]; exact Nat.ne_of_gt (blk_lt (g := gb286) (o := .cells #[.int .i64 a1_0, .int .i64 a1_1, .int .i64 a1_2] 94 (0, 0)) (by (with_reducible repeat (first | apply bN | apply bD | apply bA)); exact BK286.out)) : gb300 ≠ gb286))
        clear HO290
        clear HO299
        clear BK286
        clear HB
        have HO290 := n0_
        have HO299 := n1_
        have BK286 := n2_
        have HB := n3_
        have BK300 := n4_
        have GW300 := n5_
        have GE300 := n6_
        have NB286_300 := n7_
        have NB300_286 := n8_
        clear n0_ n1_ n2_ n3_ n4_ n5_ n6_ n7_ n8_
        clear hb hbox hg
        refine hK.out _ _ ⟨(blk_cell BK286.out 0).trans rfl, (blk_cell BK286.out 1).trans rfl, (blk_cell BK286.out 2).trans rfl⟩ (fun hHeld => ?_)
        clear hK K
        refine norm_ (a' := ?_) ?_ ?_
        rotate_left
        ·show Act.put _ (some 6) _ = _
         simp only [Act.put, List.setIfInBounds_toArray, List.set_cons_zero, List.set_cons_succ, i64_w, i32_w]
         rfl
        exact norm_ (by simp only [putAll, Act.put, List.setIfInBounds_toArray, List.set_cons_zero, List.set_cons_succ]) (hCont (.slice Ao23 t288.length co23, v298, gb300) _ ⟨hHeld, (by (with_reducible repeat (first | apply Kd.R_alloc | apply Kd.R_drewN | apply Kd.R_drew)); exact HO290.out), (by (with_reducible repeat (first | apply Kd.R_alloc | apply Kd.R_drewN | apply Kd.R_drew)); exact HO299.out), (by (with_reducible repeat (first | apply bN | apply bD | apply bA)); exact BK286.out), (by (with_reducible repeat (first | apply bN | apply bD | apply bA)); exact BK300.out), GW300.out, GE300.out, NB286_300.out, NB300_286.out, (by repeat (first | (with_reducible first | exact HB.out | apply eA | apply eN | apply eD | refine eS ?_ GE286.out | refine eS ?_ GE300.out) | exact HB.out))⟩)
       ·skip
        refine box_step ?hg (N := 6) ?hd (cs := #[.int .i64 0, .int .i64 0, .int .i64 0, .slice none 0 0]) (t := 105) ?hr ?_; (case hd => rfl); (case hg => rfl); (case hr => first | (go_simp; done) | (go_simp; rfl))
        intro gb300 hg w23 hbox hb
        have n0_ := am (Kd.R_below (by (with_reducible repeat (first | apply Kd.R_alloc | apply Kd.R_drewN | apply Kd.R_drew)); exact HO290.out) hb)
        have n1_ := am (blk_below (by (with_reducible repeat (first | apply bN | apply bD | apply bA)); exact BK286.out) hb)
        have n2_ := am (below_step (by repeat (first | (with_reducible first | exact HB.out | apply eA | apply eN | apply eD | refine eS ?_ GE286.out) | exact HB.out)) hb)
        have n3_ := am (hbox)
        have n4_ := am ((by rw [hg]; exact (below_size (by repeat (first | (with_reducible first | exact HB.out | apply eA | apply eN | apply eD | refine eS ?_ GE286.out) | exact HB.out))) : w.heap.size ≤ gb300))
        have n5_ := am ((by rw [hg]; exact (below_size (by repeat (first | (with_reducible first | exact HB.out | apply eA | apply eN | apply eD | refine eS ?_ GE286.out) | exact HB.out))) : w.heap.size ≤ gb300))
        have n6_ := am ((by rw [hg]; exact Nat.ne_of_lt (blk_lt (g := gb286) (o := .cells #[.int .i64 a1_0, .int .i64 a1_1, .int .i64 a1_2] 94 (0, 0)) (by (with_reducible repeat (first | apply bN | apply bD | apply bA)); exact BK286.out)) : gb286 ≠ gb300))
        have n7_ := am ((by rw [hg]; exact Nat.ne_of_gt (blk_lt (g := gb286) (o := .cells #[.int .i64 a1_0, .int .i64 a1_1, .int .i64 a1_2] 94 (0, 0)) (by (with_reducible repeat (first | apply bN | apply bD | apply bA)); exact BK286.out)) : gb300 ≠ gb286))
        clear HO290
        clear BK286
        clear HB
        have HO290 := n0_
        have BK286 := n1_
        have HB := n2_
        have BK300 := n3_
        have GW300 := n4_
        have GE300 := n5_
        have NB286_300 := n6_
        have NB300_286 := n7_
        clear n0_ n1_ n2_ n3_ n4_ n5_ n6_ n7_
        clear hb hbox hg
        obtain ⟨Ao24, co24, eo24⟩ := Kd.R_slice HO290.out
        (first | subst eo24 | (injection eo24 with f1_ f2_ f3_; have f4_ := f1_.symm; have f5_ := f3_.symm; clear f1_ f2_ f3_; subst f4_; subst f5_))
        refine hK.out _ _ ⟨(blk_cell BK286.out 0).trans rfl, (blk_cell BK286.out 1).trans rfl, (blk_cell BK286.out 2).trans rfl⟩ (fun hHeld => ?_)
        clear hK K
        refine norm_ (a' := ?_) ?_ ?_
        rotate_left
        ·show Act.put _ (some 6) _ = _
         simp only [Act.put, List.setIfInBounds_toArray, List.set_cons_zero, List.set_cons_succ, i64_w, i32_w]
         rfl
        refine one_ (i := 4) (N := some 22) #[true, true, true, true, true, true, false] rfl rfl (by kernel_rfl) (by decide) (fun K hK => ?_)
        refine goes_ Try.func74 (by kernel_rfl) rfl #[.slice Ao24 t288.length co24, .agg #[.int .i64 t291, .int .i64 t292, .int .i64 t293]] (by rfl) rfl rfl (by (try simp only [List.map_toArray, List.map_cons, List.map_nil]); first | done | rfl | (simp only [List.length_drop, List.length_take]; rfl)) ?_
        with_reducible refine (spec_FollowRequest.calls k _ _ t288 t291 t292 t293 t294 t295 t296 t297 _ ?side1 ?side2 A8.out).mono ?_
        (case side1 => repeat (first | exact (Kd.R_reads' HO290.out).2.2 | (with_reducible refine Kd.C_alloc ?_ _) | (with_reducible refine Kd.C_drewN ?_ _) | (with_reducible refine Kd.C_drew ?_)))
        (case side2 => exact (Kd.R_reads' HO290.out).2.1)
        rintro e w25 ⟨v298, rfl, ho0, hb⟩
        refine ⟨_, rfl, ?_⟩
        have n0_ := am (Kd.R_below (by (with_reducible repeat (first | apply Kd.R_alloc | apply Kd.R_drewN | apply Kd.R_drew)); exact HO290.out) hb)
        have n1_ := am (Kd.R_lower ho0 (below_size (by repeat (first | (with_reducible first | exact HB.out | apply eA | apply eN | apply eD | refine eS ?_ GE286.out | refine eS ?_ GE300.out) | exact HB.out))))
        have n2_ := am (blk_below (by (with_reducible repeat (first | apply bN | apply bD | apply bA)); exact BK286.out) hb)
        have n3_ := am (blk_below (by (with_reducible repeat (first | apply bN | apply bD | apply bA)); exact BK300.out) hb)
        have n4_ := am (below_step (by repeat (first | (with_reducible first | exact HB.out | apply eA | apply eN | apply eD | refine eS ?_ GE286.out | refine eS ?_ GE300.out) | exact HB.out)) hb)
        clear HO290
        clear BK286
        clear BK300
        clear HB
        have HO290 := n0_
        have HO299 := n1_
        have BK286 := n2_
        have BK300 := n3_
        have HB := n4_
        clear n0_ n1_ n2_ n3_ n4_
        (try clear hb)
        (try clear hb2)
        (try clear hk)
        (try clear hi)
        (try clear ho0)
        refine hK.out _ _ ⟨(blk_cell BK286.out 0).trans rfl, (blk_cell BK286.out 1).trans rfl, (blk_cell BK286.out 2).trans rfl⟩ (fun hHeld => ?_)
        clear hK K
        refine norm_ (a' := ?_) ?_ ?_
        rotate_left
        ·show Act.put _ (some 22) _ = _
         simp only [Act.put, List.setIfInBounds_toArray, List.set_cons_zero, List.set_cons_succ, i64_w, i32_w]
         rfl
        exact norm_ (by simp only [putAll, Act.put, List.setIfInBounds_toArray, List.set_cons_zero, List.set_cons_succ]) (hCont (.slice Ao24 t288.length co24, v298, gb300) _ ⟨hHeld, (by (with_reducible repeat (first | apply Kd.R_alloc | apply Kd.R_drewN | apply Kd.R_drew)); exact HO290.out), (by (with_reducible repeat (first | apply Kd.R_alloc | apply Kd.R_drewN | apply Kd.R_drew)); exact HO299.out), (by (with_reducible repeat (first | apply bN | apply bD | apply bA)); exact BK286.out), (by (with_reducible repeat (first | apply bN | apply bD | apply bA)); exact BK300.out), GW300.out, GE300.out, NB286_300.out, NB300_286.out, (by repeat (first | (with_reducible first | exact HB.out | apply eA | apply eN | apply eD | refine eS ?_ GE286.out | refine eS ?_ GE300.out) | exact HB.out))⟩)
      ·skip
       refine box_step ?hg (N := 6) ?hd (cs := #[.int .i64 0, .int .i64 0, .int .i64 0, .slice none 0 0]) (t := 105) ?hr ?_; (case hd => rfl); (case hg => rfl); (case hr => first | (go_simp; done) | (go_simp; rfl))
       intro gb300 hg w22 hbox hb
       have n0_ := am (Kd.R_below (by (with_reducible repeat (first | apply Kd.R_alloc | apply Kd.R_drewN | apply Kd.R_drew)); exact HO290.out) hb)
       have n1_ := am (blk_below (by (with_reducible repeat (first | apply bN | apply bD | apply bA)); exact BK286.out) hb)
       have n2_ := am (below_step (by repeat (first | (with_reducible first | exact HB.out | apply eA | apply eN | apply eD | refine eS ?_ GE286.out) | exact HB.out)) hb)
       have n3_ := am (hbox)
       have n4_ := am ((by rw [hg]; exact (below_size (by repeat (first | (with_reducible first | exact HB.out | apply eA | apply eN | apply eD | refine eS ?_ GE286.out) | exact HB.out))) : w.heap.size ≤ gb300))
       have n5_ := am ((by rw [hg]; exact (below_size (by repeat (first | (with_reducible first | exact HB.out | apply eA | apply eN | apply eD | refine eS ?_ GE286.out) | exact HB.out))) : w.heap.size ≤ gb300))
       have n6_ := am ((by rw [hg]; exact Nat.ne_of_lt (blk_lt (g := gb286) (o := .cells #[.int .i64 a1_0, .int .i64 a1_1, .int .i64 a1_2] 94 (0, 0)) (by (with_reducible repeat (first | apply bN | apply bD | apply bA)); exact BK286.out)) : gb286 ≠ gb300))
       have n7_ := am ((by rw [hg]; exact Nat.ne_of_gt (blk_lt (g := gb286) (o := .cells #[.int .i64 a1_0, .int .i64 a1_1, .int .i64 a1_2] 94 (0, 0)) (by (with_reducible repeat (first | apply bN | apply bD | apply bA)); exact BK286.out)) : gb300 ≠ gb286))
       clear HO290
       clear BK286
       clear HB
       have HO290 := n0_
       have BK286 := n1_
       have HB := n2_
       have BK300 := n3_
       have GW300 := n4_
       have GE300 := n5_
       have NB286_300 := n6_
       have NB300_286 := n7_
       clear n0_ n1_ n2_ n3_ n4_ n5_ n6_ n7_
       clear hb hbox hg
       refine hK.out _ _ ⟨(blk_cell BK286.out 0).trans rfl, (blk_cell BK286.out 1).trans rfl, (blk_cell BK286.out 2).trans rfl⟩ (fun hHeld => ?_)
       clear hK K
       refine norm_ (a' := ?_) ?_ ?_
       rotate_left
       ·show Act.put _ (some 6) _ = _
        simp only [Act.put, List.setIfInBounds_toArray, List.set_cons_zero, List.set_cons_succ, i64_w, i32_w]
        rfl
       refine one_ (i := 3) (N := some 21) #[true, true, true, true, false, true, false] rfl rfl (by kernel_rfl) (by decide) (fun K hK => ?_)
       refine goes_ Try.func67 (by kernel_rfl) rfl #[.agg #[.int .i64 a1_0, .int .i64 a1_1, .int .i64 a1_2]] (by rfl) rfl rfl (by (try simp only [List.map_toArray, List.map_cons, List.map_nil]); first | done | rfl | (simp only [List.length_drop, List.length_take]; rfl)) ?_
       with_reducible refine (laws_toRequest.calls a1_0 a1_1 a1_2 t291 t292 t293 _ A7.out).mono ?_
       rintro e w23 ⟨rfl, hb⟩
       refine ⟨_, rfl, ?_⟩
       have n0_ := am (Kd.R_below (by (with_reducible repeat (first | apply Kd.R_alloc | apply Kd.R_drewN | apply Kd.R_drew)); exact HO290.out) hb)
       have n1_ := am (blk_below (by (with_reducible repeat (first | apply bN | apply bD | apply bA)); exact BK286.out) hb)
       have n2_ := am (blk_below (by (with_reducible repeat (first | apply bN | apply bD | apply bA)); exact BK300.out) hb)
       have n3_ := am (below_step (by repeat (first | (with_reducible first | exact HB.out | apply eA | apply eN | apply eD | refine eS ?_ GE286.out | refine eS ?_ GE300.out) | exact HB.out)) hb)
       clear HO290
       clear BK286
       clear BK300
       clear HB
       have HO290 := n0_
       have BK286 := n1_
       have BK300 := n2_
       have HB := n3_
       clear n0_ n1_ n2_ n3_
       (try clear hb)
       (try clear hb2)
       (try clear hk)
       (try clear hi)
       obtain ⟨Ao24, co24, eo24⟩ := Kd.R_slice HO290.out
       (first | subst eo24 | (injection eo24 with f1_ f2_ f3_; have f4_ := f1_.symm; have f5_ := f3_.symm; clear f1_ f2_ f3_; subst f4_; subst f5_))
       refine hK.out _ _ ⟨(blk_cell BK286.out 0).trans rfl, (blk_cell BK286.out 1).trans rfl, (blk_cell BK286.out 2).trans rfl⟩ (fun hHeld => ?_)
       clear hK K
       refine norm_ (a' := ?_) ?_ ?_
       rotate_left
       ·show Act.put _ (some 21) _ = _
        simp only [Act.put, List.setIfInBounds_toArray, List.set_cons_zero, List.set_cons_succ, i64_w, i32_w]
        rfl
       refine one_ (i := 4) (N := some 22) #[true, true, true, true, true, true, false] rfl rfl (by kernel_rfl) (by decide) (fun K hK => ?_)
       refine goes_ Try.func74 (by kernel_rfl) rfl #[.slice Ao24 t288.length co24, .agg #[.int .i64 t291, .int .i64 t292, .int .i64 t293]] (by rfl) rfl rfl (by (try simp only [List.map_toArray, List.map_cons, List.map_nil]); first | done | rfl | (simp only [List.length_drop, List.length_take]; rfl)) ?_
       with_reducible refine (spec_FollowRequest.calls k _ _ t288 t291 t292 t293 t294 t295 t296 t297 _ ?side1 ?side2 A8.out).mono ?_
       (case side1 => repeat (first | exact (Kd.R_reads' HO290.out).2.2 | (with_reducible refine Kd.C_alloc ?_ _) | (with_reducible refine Kd.C_drewN ?_ _) | (with_reducible refine Kd.C_drew ?_)))
       (case side2 => exact (Kd.R_reads' HO290.out).2.1)
       rintro e w25 ⟨v298, rfl, ho0, hb⟩
       refine ⟨_, rfl, ?_⟩
       have n0_ := am (Kd.R_below (by (with_reducible repeat (first | apply Kd.R_alloc | apply Kd.R_drewN | apply Kd.R_drew)); exact HO290.out) hb)
       have n1_ := am (Kd.R_lower ho0 (below_size (by repeat (first | (with_reducible first | exact HB.out | apply eA | apply eN | apply eD | refine eS ?_ GE286.out | refine eS ?_ GE300.out) | exact HB.out))))
       have n2_ := am (blk_below (by (with_reducible repeat (first | apply bN | apply bD | apply bA)); exact BK286.out) hb)
       have n3_ := am (blk_below (by (with_reducible repeat (first | apply bN | apply bD | apply bA)); exact BK300.out) hb)
       have n4_ := am (below_step (by repeat (first | (with_reducible first | exact HB.out | apply eA | apply eN | apply eD | refine eS ?_ GE286.out | refine eS ?_ GE300.out) | exact HB.out)) hb)
       clear HO290
       clear BK286
       clear BK300
       clear HB
       have HO290 := n0_
       have HO299 := n1_
       have BK286 := n2_
       have BK300 := n3_
       have HB := n4_
       clear n0_ n1_ n2_ n3_ n4_
       (try clear hb)
       (try clear hb2)
       (try clear hk)
       (try clear hi)
       (try clear ho0)
       refine hK.out _ _ ⟨(blk_cell BK286.out 0).trans rfl, (blk_cell BK286.out 1).trans rfl, (blk_cell BK286.out 2).trans rfl⟩ (fun hHeld => ?_)
       clear hK K
       refine norm_ (a' := ?_) ?_ ?_
       rotate_left
       ·show Act.put _ (some 22) _ = _
        simp only [Act.put, List.setIfInBounds_toArray, List.set_cons_zero, List.set_cons_succ, i64_w, i32_w]
        rfl
       exact norm_ (by simp only [putAll, Act.put, List.setIfInBounds_toArray, List.set_cons_zero, List.set_cons_succ]) (hCont (.slice Ao24 t288.length co24, v298, gb300) _ ⟨hHeld, (by (with_reducible repeat (first | apply Kd.R_alloc | apply Kd.R_drewN | apply Kd.R_drew)); exact HO290.out), (by (with_reducible repeat (first | apply Kd.R_alloc | apply Kd.R_drewN | apply Kd.R_drew)); exact HO299.out), (by (with_reducible repeat (first | apply bN | apply bD | apply bA)); exact BK286.out), (by (with_reducible repeat (first | apply bN | apply bD | apply bA)); exact BK300.out), GW300.out, GE300.out, NB286_300.out, NB300_286.out, (by repeat (first | (with_reducible first | exact HB.out | apply eA | apply eN | apply eD | refine eS ?_ GE286.out | refine eS ?_ GE300.out) | exact HB.out))⟩)
     ·skip
      refine box_step ?hg (N := 6) ?hd (cs := #[.int .i64 0, .int .i64 0, .int .i64 0, .slice none 0 0]) (t := 105) ?hr ?_; (case hd => rfl); (case hg => rfl); (case hr => first | (go_simp; done) | (go_simp; rfl))
      intro gb300 hg w21 hbox hb
      have n0_ := am (blk_below (by (with_reducible repeat (first | apply bN | apply bD | apply bA)); exact BK286.out) hb)
      have n1_ := am (below_step (by repeat (first | (with_reducible first | exact HB.out | apply eA | apply eN | apply eD | refine eS ?_ GE286.out) | exact HB.out)) hb)
      have n2_ := am (hbox)
      have n3_ := am ((by rw [hg]; exact (below_size (by repeat (first | (with_reducible first | exact HB.out | apply eA | apply eN | apply eD | refine eS ?_ GE286.out) | exact HB.out))) : w.heap.size ≤ gb300))
      have n4_ := am ((by rw [hg]; exact (below_size (by repeat (first | (with_reducible first | exact HB.out | apply eA | apply eN | apply eD | refine eS ?_ GE286.out) | exact HB.out))) : w.heap.size ≤ gb300))
      have n5_ := am ((by rw [hg]; exact Nat.ne_of_lt (blk_lt (g := gb286) (o := .cells #[.int .i64 a1_0, .int .i64 a1_1, .int .i64 a1_2] 94 (0, 0)) (by (with_reducible repeat (first | apply bN | apply bD | apply bA)); exact BK286.out)) : gb286 ≠ gb300))
      have n6_ := am ((by rw [hg]; exact Nat.ne_of_gt (blk_lt (g := gb286) (o := .cells #[.int .i64 a1_0, .int .i64 a1_1, .int .i64 a1_2] 94 (0, 0)) (by (with_reducible repeat (first | apply bN | apply bD | apply bA)); exact BK286.out)) : gb300 ≠ gb286))
      clear BK286
      clear HB
      have BK286 := n0_
      have HB := n1_
      have BK300 := n2_
      have GW300 := n3_
      have GE300 := n4_
      have NB286_300 := n5_
      have NB300_286 := n6_
      clear n0_ n1_ n2_ n3_ n4_ n5_ n6_
      clear hb hbox hg
      refine hK.out _ _ ⟨(blk_cell BK286.out 0).trans rfl, (blk_cell BK286.out 1).trans rfl, (blk_cell BK286.out 2).trans rfl⟩ (fun hHeld => ?_)
      clear hK K
      refine norm_ (a' := ?_) ?_ ?_
      rotate_left
      ·show Act.put _ (some 6) _ = _
       simp only [Act.put, List.setIfInBounds_toArray, List.set_cons_zero, List.set_cons_succ, i64_w, i32_w]
       rfl
      refine one_ (i := 1) (N := some 19) #[true, true, true, false, false, true, false] rfl rfl (by kernel_rfl) (by decide) (fun K hK => ?_)
      refine goes_ Try.func17 (by kernel_rfl) rfl #[.slice A0 l0.length c0] (by rfl) rfl rfl (by (try simp only [List.map_toArray, List.map_cons, List.map_nil]); first | done | rfl | (simp only [List.length_drop, List.length_take]; rfl)) ?_
      with_reducible refine (laws_toRuleS.calls k _ _ l0 t288 _ ?side1 ?side2 A6.out).mono ?_
      (case side1 => repeat (first | exact (Kd.C_below HR0.out HB.out) | (with_reducible refine Kd.C_alloc ?_ _) | (with_reducible refine Kd.C_drewN ?_ _) | (with_reducible refine Kd.C_drew ?_)))
      (case side2 => exact HC0.out)
      rintro e w22 ⟨v289, rfl, ho0, hb⟩
      refine ⟨_, rfl, ?_⟩
      have n0_ := am (Kd.R_lower ho0 (below_size (by repeat (first | (with_reducible first | exact HB.out | apply eA | apply eN | apply eD | refine eS ?_ GE286.out | refine eS ?_ GE300.out) | exact HB.out))))
      have n1_ := am (blk_below (by (with_reducible repeat (first | apply bN | apply bD | apply bA)); exact BK286.out) hb)
      have n2_ := am (blk_below (by (with_reducible repeat (first | apply bN | apply bD | apply bA)); exact BK300.out) hb)
      have n3_ := am (below_step (by repeat (first | (with_reducible first | exact HB.out | apply eA | apply eN | apply eD | refine eS ?_ GE286.out | refine eS ?_ GE300.out) | exact HB.out)) hb)
      clear BK286
      clear BK300
      clear HB
      have HO290 := n0_
      have BK286 := n1_
      have BK300 := n2_
      have HB := n3_
      clear n0_ n1_ n2_ n3_
      (try clear hb)
      (try clear hb2)
      (try clear hk)
      (try clear hi)
      (try clear ho0)
      refine hK.out _ _ ⟨(blk_cell BK286.out 0).trans rfl, (blk_cell BK286.out 1).trans rfl, (blk_cell BK286.out 2).trans rfl⟩ (fun hHeld => ?_)
      clear hK K
      refine norm_ (a' := ?_) ?_ ?_
      rotate_left
      ·show Act.put _ (some 19) _ = _
       simp only [Act.put, List.setIfInBounds_toArray, List.set_cons_zero, List.set_cons_succ, i64_w, i32_w]
       rfl
      refine one_ (i := 3) (N := some 21) #[true, true, true, true, false, true, false] rfl rfl (by kernel_rfl) (by decide) (fun K hK => ?_)
      refine goes_ Try.func67 (by kernel_rfl) rfl #[.agg #[.int .i64 a1_0, .int .i64 a1_1, .int .i64 a1_2]] (by rfl) rfl rfl (by (try simp only [List.map_toArray, List.map_cons, List.map_nil]); first | done | rfl | (simp only [List.length_drop, List.length_take]; rfl)) ?_
      with_reducible refine (laws_toRequest.calls a1_0 a1_1 a1_2 t291 t292 t293 _ A7.out).mono ?_
      rintro e w23 ⟨rfl, hb⟩
      refine ⟨_, rfl, ?_⟩
      have n0_ := am (Kd.R_below (by (with_reducible repeat (first | apply Kd.R_alloc | apply Kd.R_drewN | apply Kd.R_drew)); exact HO290.out) hb)
      have n1_ := am (blk_below (by (with_reducible repeat (first | apply bN | apply bD | apply bA)); exact BK286.out) hb)
      have n2_ := am (blk_below (by (with_reducible repeat (first | apply bN | apply bD | apply bA)); exact BK300.out) hb)
      have n3_ := am (below_step (by repeat (first | (with_reducible first | exact HB.out | apply eA | apply eN | apply eD | refine eS ?_ GE286.out | refine eS ?_ GE300.out) | exact HB.out)) hb)
      clear HO290
      clear BK286
      clear BK300
      clear HB
      have HO290 := n0_
      have BK286 := n1_
      have BK300 := n2_
      have HB := n3_
      clear n0_ n1_ n2_ n3_
      (try clear hb)
      (try clear hb2)
      (try clear hk)
      (try clear hi)
      obtain ⟨Ao24, co24, eo24⟩ := Kd.R_slice HO290.out
      (first | subst eo24 | (injection eo24 with f1_ f2_ f3_; have f4_ := f1_.symm; have f5_ := f3_.symm; clear f1_ f2_ f3_; subst f4_; subst f5_))
      refine hK.out _ _ ⟨(blk_cell BK286.out 0).trans rfl, (blk_cell BK286.out 1).trans rfl, (blk_cell BK286.out 2).trans rfl⟩ (fun hHeld => ?_)
      clear hK K
      refine norm_ (a' := ?_) ?_ ?_
      rotate_left
      ·show Act.put _ (some 21) _ = _
       simp only [Act.put, List.setIfInBounds_toArray, List.set_cons_zero, List.set_cons_succ, i64_w, i32_w]
       rfl
      refine one_ (i := 4) (N := some 22) #[true, true, true, true, true, true, false] rfl rfl (by kernel_rfl) (by decide) (fun K hK => ?_)
      refine goes_ Try.func74 (by kernel_rfl) rfl #[.slice Ao24 t288.length co24, .agg #[.int .i64 t291, .int .i64 t292, .int .i64 t293]] (by rfl) rfl rfl (by (try simp only [List.map_toArray, List.map_cons, List.map_nil]); first | done | rfl | (simp only [List.length_drop, List.length_take]; rfl)) ?_
      with_reducible refine (spec_FollowRequest.calls k _ _ t288 t291 t292 t293 t294 t295 t296 t297 _ ?side1 ?side2 A8.out).mono ?_
      (case side1 => repeat (first | exact (Kd.R_reads' HO290.out).2.2 | (with_reducible refine Kd.C_alloc ?_ _) | (with_reducible refine Kd.C_drewN ?_ _) | (with_reducible refine Kd.C_drew ?_)))
      (case side2 => exact (Kd.R_reads' HO290.out).2.1)
      rintro e w25 ⟨v298, rfl, ho0, hb⟩
      refine ⟨_, rfl, ?_⟩
      have n0_ := am (Kd.R_below (by (with_reducible repeat (first | apply Kd.R_alloc | apply Kd.R_drewN | apply Kd.R_drew)); exact HO290.out) hb)
      have n1_ := am (Kd.R_lower ho0 (below_size (by repeat (first | (with_reducible first | exact HB.out | apply eA | apply eN | apply eD | refine eS ?_ GE286.out | refine eS ?_ GE300.out) | exact HB.out))))
      have n2_ := am (blk_below (by (with_reducible repeat (first | apply bN | apply bD | apply bA)); exact BK286.out) hb)
      have n3_ := am (blk_below (by (with_reducible repeat (first | apply bN | apply bD | apply bA)); exact BK300.out) hb)
      have n4_ := am (below_step (by repeat (first | (with_reducible first | exact HB.out | apply eA | apply eN | apply eD | refine eS ?_ GE286.out | refine eS ?_ GE300.out) | exact HB.out)) hb)
      clear HO290
      clear BK286
      clear BK300
      clear HB
      have HO290 := n0_
      have HO299 := n1_
      have BK286 := n2_
      have BK300 := n3_
      have HB := n4_
      clear n0_ n1_ n2_ n3_ n4_
      (try clear hb)
      (try clear hb2)
      (try clear hk)
      (try clear hi)
      (try clear ho0)
      refine hK.out _ _ ⟨(blk_cell BK286.out 0).trans rfl, (blk_cell BK286.out 1).trans rfl, (blk_cell BK286.out 2).trans rfl⟩ (fun hHeld => ?_)
      clear hK K
      refine norm_ (a' := ?_) ?_ ?_
      rotate_left
      ·show Act.put _ (some 22) _ = _
       simp only [Act.put, List.setIfInBounds_toArray, List.set_cons_zero, List.set_cons_succ, i64_w, i32_w]
       rfl
      exact norm_ (by simp only [putAll, Act.put, List.setIfInBounds_toArray, List.set_cons_zero, List.set_cons_succ]) (hCont (.slice Ao24 t288.length co24, v298, gb300) _ ⟨hHeld, (by (with_reducible repeat (first | apply Kd.R_alloc | apply Kd.R_drewN | apply Kd.R_drew)); exact HO290.out), (by (with_reducible repeat (first | apply Kd.R_alloc | apply Kd.R_drewN | apply Kd.R_drew)); exact HO299.out), (by (with_reducible repeat (first | apply bN | apply bD | apply bA)); exact BK286.out), (by (with_reducible repeat (first | apply bN | apply bD | apply bA)); exact BK300.out), GW300.out, GE300.out, NB286_300.out, NB300_286.out, (by repeat (first | (with_reducible first | exact HB.out | apply eA | apply eN | apply eD | refine eS ?_ GE286.out | refine eS ?_ GE300.out) | exact HB.out))⟩)
    rintro ⟨v289, v298, gb300⟩ w26 ⟨hS_, h0_, h1_, h2_, h3_, h4_, h5_, h6_, h7_, h8_⟩
    have n0_ : Aside0 (Kd.R k35 35 w26 w.heap.size (fun _ => True) v289 t288) := ⟨h0_⟩
    have n1_ : Aside0 (Kd.R k33 33 w26 w.heap.size (fun _ => True) v298 t297) := ⟨h1_⟩
    have n2_ : Aside0 (w26.heap[gb286]? = some (.cells #[.int .i64 a1_0, .int .i64 a1_1, .int .i64 a1_2] 94 (0, 0))) := ⟨h2_⟩
    have n3_ : Aside0 (w26.heap[gb300]? = some (.cells #[.int .i64 0, .int .i64 0, .int .i64 0, .slice none 0 0] 105 (0, 0))) := ⟨h3_⟩
    have n4_ : Aside0 (w.heap.size ≤ gb300) := ⟨h4_⟩
    have n5_ : Aside0 (w.heap.size ≤ gb300) := ⟨h5_⟩
    have n6_ : Aside0 (gb286 ≠ gb300) := ⟨h6_⟩
    have n7_ : Aside0 (gb300 ≠ gb286) := ⟨h7_⟩
    have n8_ : Aside0 (Below w.heap.size w w26) := ⟨h8_⟩
    clear BK286
    clear HB
    clear h0_ h1_ h2_ h3_ h4_ h5_ h6_ h7_ h8_
    have HO290 := n0_
    have HO299 := n1_
    have BK286 := n2_
    have BK300 := n3_
    have GW300 := n4_
    have GE300 := n5_
    have NB286_300 := n6_
    have NB300_286 := n7_
    have HB := n8_
    clear n0_ n1_ n2_ n3_ n4_ n5_ n6_ n7_ n8_
    have hHeld : w26.cell? ⟨gb286, 0, none⟩ = some (.int .i64 a1_0) ∧ w26.cell? ⟨gb286, 1, none⟩ = some (.int .i64 a1_1) ∧ w26.cell? ⟨gb286, 2, none⟩ = some (.int .i64 a1_2) := hS_
    obtain ⟨Ao30, co30, eo30⟩ := Kd.R_slice HO299.out
    (first | subst eo30 | (injection eo30 with f1_ f2_ f3_; have f4_ := f1_.symm; have f5_ := f3_.symm; clear f1_ f2_ f3_; subst f4_; subst f5_))
    refine norm_ (a' := ?_) ?_ ?_
    rotate_left
    ·simp only [putAll, Act.put, List.setIfInBounds_toArray, List.set_cons_zero, List.set_cons_succ]
     rfl
    refine one_ (i := 6) (N := none) #[true, true, true, true, true, true, true] rfl rfl (by kernel_rfl) (by decide) (fun K hK => ?_)
    have hs27 : w26.cell? ⟨gb300, 0, none⟩ = some (.int .i64 0) := (blk_cell BK300.out 0).trans rfl
    have hfs27 := blk_frozen BK300.out 0
    have hns27_0 := NB286_300.out
    have hms27_0 := NB300_286.out
    have hs28 : w26.cell? ⟨gb300, 1, none⟩ = some (.int .i64 0) := (blk_cell BK300.out 1).trans rfl
    have hfs28 := blk_frozen BK300.out 1
    have hns28_0 := NB286_300.out
    have hms28_0 := NB300_286.out
    have hs29 : w26.cell? ⟨gb300, 2, none⟩ = some (.int .i64 0) := (blk_cell BK300.out 2).trans rfl
    have hfs29 := blk_frozen BK300.out 2
    have hns29_0 := NB286_300.out
    have hms29_0 := NB300_286.out
    have hs31 : w26.cell? ⟨gb300, 3, none⟩ = some (.slice none 0 0) := (blk_cell BK300.out 3).trans rfl
    have hfs31 := blk_frozen BK300.out 3
    have hns31_0 := NB286_300.out
    have hms31_0 := NB300_286.out
    refine skip_ (w1 := ?_) (by rfl) rfl ?_ ?_
    rotate_left
    ·go_simp
     rfl
    refine hK.out _ _ ⟨((cell_far (p := ⟨gb300, _, none⟩) NB286_300.out _).trans (((cell_far (p := ⟨gb300, _, none⟩) NB286_300.out _).trans (((cell_far (p := ⟨gb300, _, none⟩) NB286_300.out _).trans (((cell_far (p := ⟨gb300, _, none⟩) NB286_300.out _).trans (hHeld.1)))))))), ((cell_far (p := ⟨gb300, _, none⟩) NB286_300.out _).trans (((cell_far (p := ⟨gb300, _, none⟩) NB286_300.out _).trans (((cell_far (p := ⟨gb300, _, none⟩) NB286_300.out _).trans (((cell_far (p := ⟨gb300, _, none⟩) NB286_300.out _).trans (hHeld.2.1)))))))), ((cell_far (p := ⟨gb300, _, none⟩) NB286_300.out _).trans (((cell_far (p := ⟨gb300, _, none⟩) NB286_300.out _).trans (((cell_far (p := ⟨gb300, _, none⟩) NB286_300.out _).trans (((cell_far (p := ⟨gb300, _, none⟩) NB286_300.out _).trans (hHeld.2.2))))))))⟩ (fun hHeld => ?_)
    clear hK K
    refine done_ (by kernel_rfl) ?_
    go_upto_region 14 with (first | ((with_reducible refine gate_callee (f := 17) rfl ?_); refine goesL_ (some 24) rfl rfl Try.func17 (by kernel_rfl) rfl #[.slice A0 l0.length c0] rfl (by (try simp only [List.map_toArray, List.map_cons, List.map_nil]); first | done | rfl | (simp only [List.length_drop, List.length_take]; rfl)) ?_; (with_reducible refine (laws_toRuleS.calls k _ _ l0 t301 _ ?side1 ?side2 A9.out).mono ?_); (case side1 => exact Kd.C_below HR0.out (by repeat (first | (with_reducible first | exact HB.out | apply eA | apply eN | apply eD | refine eS ?_ GE286.out | refine eS ?_ GE300.out) | exact HB.out))); (case side2 => exact HC0.out); rintro e w32 ⟨v302, rfl, ho0, hb⟩; refine ⟨_, rfl, ?_⟩; have n0_ := am (Kd.R_elder' (by (with_reducible repeat (first | apply Kd.R_alloc | apply Kd.R_drewN | apply Kd.R_drew)); exact (Kd.R_mono (Kd.R_far (p := ⟨gb300, 3, none⟩) (Kd.R_far (p := ⟨gb300, 2, none⟩) (Kd.R_far (p := ⟨gb300, 1, none⟩) (Kd.R_far (p := ⟨gb300, 0, none⟩) (Kd.R_types HO290.out BK300.out (by decide)) (fun _ hk => hk.2) (.int .i64 t294)) (fun _ hk => hk.2) (.int .i64 t295)) (fun _ hk => hk.2) (.int .i64 t296)) (fun _ hk => hk.2) (.slice Ao30 t297.length co30)) (fun _ h_ => h_.1))) (Kd.R_base ho0) hb); have n1_ := am (Kd.R_below (by (with_reducible repeat (first | apply Kd.R_alloc | apply Kd.R_drewN | apply Kd.R_drew)); exact (Kd.R_mono (Kd.R_far (p := ⟨gb300, 3, none⟩) (Kd.R_far (p := ⟨gb300, 2, none⟩) (Kd.R_far (p := ⟨gb300, 1, none⟩) (Kd.R_far (p := ⟨gb300, 0, none⟩) (Kd.R_types HO299.out BK300.out (by decide)) (fun _ hk => hk.2) (.int .i64 t294)) (fun _ hk => hk.2) (.int .i64 t295)) (fun _ hk => hk.2) (.int .i64 t296)) (fun _ hk => hk.2) (.slice Ao30 t297.length co30)) (fun _ h_ => h_.1))) hb); have n2_ := am (Kd.R_lower (Kd.R_new' ho0 (Kd.R_lt (by (with_reducible repeat (first | apply Kd.R_alloc | apply Kd.R_drewN | apply Kd.R_drew)); exact (Kd.R_mono (Kd.R_far (p := ⟨gb300, 3, none⟩) (Kd.R_far (p := ⟨gb300, 2, none⟩) (Kd.R_far (p := ⟨gb300, 1, none⟩) (Kd.R_far (p := ⟨gb300, 0, none⟩) (Kd.R_types HO290.out BK300.out (by decide)) (fun _ hk => hk.2) (.int .i64 t294)) (fun _ hk => hk.2) (.int .i64 t295)) (fun _ hk => hk.2) (.int .i64 t296)) (fun _ hk => hk.2) (.slice Ao30 t297.length co30)) (fun _ h_ => h_.1))))) (below_size (by repeat (first | (with_reducible first | exact HB.out | apply eA | apply eN | apply eD | refine eS ?_ GE286.out | refine eS ?_ GE300.out) | exact HB.out)))); have n3_ := am (blk_below (g := gb286) (o := .cells #[.int .i64 a1_0, .int .i64 a1_1, .int .i64 a1_2] 94 (0, 0)) (by (with_reducible repeat (first | apply bN | apply bD | apply bA)); refine blk_far ?_ NB286_300.out _; (with_reducible repeat (first | apply bN | apply bD | apply bA)); refine blk_far ?_ NB286_300.out _; (with_reducible repeat (first | apply bN | apply bD | apply bA)); refine blk_far ?_ NB286_300.out _; (with_reducible repeat (first | apply bN | apply bD | apply bA)); refine blk_far ?_ NB286_300.out _; (with_reducible repeat (first | apply bN | apply bD | apply bA)); exact BK286.out) hb); have n4_ := am (blk_below (g := gb300) (o := .cells #[.int .i64 t294, .int .i64 t295, .int .i64 t296, .slice Ao30 t297.length co30] 105 (0, 0)) (by (with_reducible repeat (first | apply bN | apply bD | apply bA)); refine blk_put (cs := #[.int .i64 t294, .int .i64 t295, .int .i64 t296, .slice none 0 0]) ?_ 3 _ rfl; (with_reducible repeat (first | apply bN | apply bD | apply bA)); refine blk_put (cs := #[.int .i64 t294, .int .i64 t295, .int .i64 0, .slice none 0 0]) ?_ 2 _ rfl; (with_reducible repeat (first | apply bN | apply bD | apply bA)); refine blk_put (cs := #[.int .i64 t294, .int .i64 0, .int .i64 0, .slice none 0 0]) ?_ 1 _ rfl; (with_reducible repeat (first | apply bN | apply bD | apply bA)); refine blk_put (cs := #[.int .i64 0, .int .i64 0, .int .i64 0, .slice none 0 0]) ?_ 0 _ rfl; (with_reducible repeat (first | apply bN | apply bD | apply bA)); exact BK300.out) hb); have n5_ := am (below_step (by repeat (first | (with_reducible first | exact HB.out | apply eA | apply eN | apply eD | refine eS ?_ GE286.out | refine eS ?_ GE300.out) | exact HB.out)) hb); clear HO290; clear HO299; clear BK286; clear BK300; clear HB; have HO290 := n0_; have HO299 := n1_; have HO303 := n2_; have BK286 := n3_; have BK300 := n4_; have HB := n5_; clear n0_ n1_ n2_ n3_ n4_ n5_; (try clear hb); (try clear hb2); (try clear hk); (try clear hi); (try clear ho0); have hnb33 := NB286_300.out; have hnc33 := NB300_286.out; obtain ⟨hcz34_0, hcz34_1, hcz34_2, hfz34_0, hfz34_1, hfz34_2⟩ := blk3 BK286.out) | ((with_reducible refine gate_callee (f := 67) rfl ?_); refine goesL_ (some 27) rfl rfl Try.func67 (by kernel_rfl) rfl #[.agg #[.int .i64 a1_0, .int .i64 a1_1, .int .i64 a1_2]] rfl (by (try simp only [List.map_toArray, List.map_cons, List.map_nil]); first | done | rfl | (simp only [List.length_drop, List.length_take]; rfl)) ?_; (with_reducible refine (laws_toRequest.calls a1_0 a1_1 a1_2 t304 t305 t306 _ A10.out).mono ?_); rintro e w35 ⟨rfl, hb⟩; refine ⟨_, rfl, ?_⟩; have n0_ := am (Kd.R_below (by (with_reducible repeat (first | apply Kd.R_alloc | apply Kd.R_drewN | apply Kd.R_drew)); exact HO290.out) hb); have n1_ := am (Kd.R_below (by (with_reducible repeat (first | apply Kd.R_alloc | apply Kd.R_drewN | apply Kd.R_drew)); exact HO299.out) hb); have n2_ := am (Kd.R_below (by (with_reducible repeat (first | apply Kd.R_alloc | apply Kd.R_drewN | apply Kd.R_drew)); exact HO303.out) hb); have n3_ := am (blk_below (by (with_reducible repeat (first | apply bN | apply bD | apply bA)); exact BK286.out) hb); have n4_ := am (blk_below (by (with_reducible repeat (first | apply bN | apply bD | apply bA)); exact BK300.out) hb); have n5_ := am (below_step (by repeat (first | (with_reducible first | exact HB.out | apply eA | apply eN | apply eD | refine eS ?_ GE286.out | refine eS ?_ GE300.out) | exact HB.out)) hb); clear HO290; clear HO299; clear HO303; clear BK286; clear BK300; clear HB; have HO290 := n0_; have HO299 := n1_; have HO303 := n2_; have BK286 := n3_; have BK300 := n4_; have HB := n5_; clear n0_ n1_ n2_ n3_ n4_ n5_; (try clear hb); (try clear hb2); (try clear hk); (try clear hi); obtain ⟨Ao36, co36, eo36⟩ := Kd.R_slice HO303.out; subst eo36) | ((with_reducible refine gate_callee (f := 75) rfl ?_); refine goesL_ (some 28) rfl rfl Try.func75 (by kernel_rfl) rfl #[.slice Ao36 t301.length co36, .agg #[.int .i64 t304, .int .i64 t305, .int .i64 t306]] rfl (by (try simp only [List.map_toArray, List.map_cons, List.map_nil]); first | done | rfl | (simp only [List.length_drop, List.length_take]; rfl)) ?_; (with_reducible refine (impl_FollowRequest.calls k _ _ t301 t304 t305 t306 t307 t308 t309 t310 _ ?side1 ?side2 A11.out).mono ?_); (case side1 => repeat (first | exact (Kd.R_reads' HO303.out).2.2 | (with_reducible refine Kd.C_alloc ?_ _) | (with_reducible refine Kd.C_drewN ?_ _) | (with_reducible refine Kd.C_drew ?_))); (case side2 => exact (Kd.R_reads' HO303.out).2.1); rintro e w37 ⟨v311, rfl, ho0, hb⟩; refine ⟨_, rfl, ?_⟩; have n0_ := am (Kd.R_below (by (with_reducible repeat (first | apply Kd.R_alloc | apply Kd.R_drewN | apply Kd.R_drew)); exact HO290.out) hb); have n1_ := am (Kd.R_elder' (by (with_reducible repeat (first | apply Kd.R_alloc | apply Kd.R_drewN | apply Kd.R_drew)); exact HO299.out) (Kd.R_base ho0) hb); have n2_ := am (Kd.R_below (by (with_reducible repeat (first | apply Kd.R_alloc | apply Kd.R_drewN | apply Kd.R_drew)); exact HO303.out) hb); have n3_ := am (Kd.R_lower (Kd.R_new' ho0 (Kd.R_lt (by (with_reducible repeat (first | apply Kd.R_alloc | apply Kd.R_drewN | apply Kd.R_drew)); exact HO299.out))) (below_size (by repeat (first | (with_reducible first | exact HB.out | apply eA | apply eN | apply eD | refine eS ?_ GE286.out | refine eS ?_ GE300.out) | exact HB.out)))); have n4_ := am (blk_below (by (with_reducible repeat (first | apply bN | apply bD | apply bA)); exact BK286.out) hb); have n5_ := am (blk_below (by (with_reducible repeat (first | apply bN | apply bD | apply bA)); exact BK300.out) hb); have n6_ := am (below_step (by repeat (first | (with_reducible first | exact HB.out | apply eA | apply eN | apply eD | refine eS ?_ GE286.out | refine eS ?_ GE300.out) | exact HB.out)) hb); clear HO290; clear HO299; clear HO303; clear BK286; clear BK300; clear HB; have HO290 := n0_; have HO299 := n1_; have HO303 := n2_; have HO312 := n3_; have BK286 := n4_; have BK300 := n5_; have HB := n6_; clear n0_ n1_ n2_ n3_ n4_ n5_ n6_; (try clear hb); (try clear hb2); (try clear hk); (try clear hi); (try clear ho0)) | ((with_reducible refine gate_dst (N := 8) rfl ?_); refine box_event ?hg (N := 8) ?hd (cs := #[.int .i64 0, .int .i64 0, .int .i64 0, .slice none 0 0]) (t := 105) ?hr ?_; (case hd => rfl); (case hg => rfl); (case hr => first | (go_simp; done) | (go_simp; rfl)); intro gb313 hg w38 hbox hb; have n0_ := am (Kd.R_below (by (with_reducible repeat (first | apply Kd.R_alloc | apply Kd.R_drewN | apply Kd.R_drew)); exact HO290.out) hb); have n1_ := am (Kd.R_below (by (with_reducible repeat (first | apply Kd.R_alloc | apply Kd.R_drewN | apply Kd.R_drew)); exact HO299.out) hb); have n2_ := am (Kd.R_below (by (with_reducible repeat (first | apply Kd.R_alloc | apply Kd.R_drewN | apply Kd.R_drew)); exact HO303.out) hb); have n3_ := am (Kd.R_below (by (with_reducible repeat (first | apply Kd.R_alloc | apply Kd.R_drewN | apply Kd.R_drew)); exact HO312.out) hb); have n4_ := am (blk_below (by (with_reducible repeat (first | apply bN | apply bD | apply bA)); exact BK286.out) hb); have n5_ := am (blk_below (by (with_reducible repeat (first | apply bN | apply bD | apply bA)); exact BK300.out) hb); have q_ := hbx_ (by repeat (first | (with_reducible first | exact HB.out | apply eA | apply eN | apply eD | refine eS ?_ GE286.out | refine eS ?_ GE300.out) | exact HB.out)) hg hb; have n6_ := q_.1; have n7_ := am (hbox); have n8_ := q_.2; have n9_ := n8_; have n10_ := am ((by rw [hg]; exact Nat.ne_of_lt (blk_lt (g := gb286) (o := .cells #[.int .i64 a1_0, .int .i64 a1_1, .int .i64 a1_2] 94 (0, 0)) (by (with_reducible repeat (first | apply bN | apply bD | apply bA)); exact BK286.out)) : gb286 ≠ gb313)); have n11_ := am ((by rw [hg]; exact Nat.ne_of_gt (blk_lt (g := gb286) (o := .cells #[.int .i64 a1_0, .int .i64 a1_1, .int .i64 a1_2] 94 (0, 0)) (by (with_reducible repeat (first | apply bN | apply bD | apply bA)); exact BK286.out)) : gb313 ≠ gb286)); have n12_ := am ((by rw [hg]; exact Nat.ne_of_lt (blk_lt (g := gb300) (o := .cells #[.int .i64 t294, .int .i64 t295, .int .i64 t296, .slice Ao30 t297.length co30] 105 (0, 0)) (by (with_reducible repeat (first | apply bN | apply bD | apply bA)); exact BK300.out)) : gb300 ≠ gb313)); have n13_ := am ((by rw [hg]; exact Nat.ne_of_gt (blk_lt (g := gb300) (o := .cells #[.int .i64 t294, .int .i64 t295, .int .i64 t296, .slice Ao30 t297.length co30] 105 (0, 0)) (by (with_reducible repeat (first | apply bN | apply bD | apply bA)); exact BK300.out)) : gb313 ≠ gb300)); clear HO290; clear HO299; clear HO303; clear HO312; clear BK286; clear BK300; clear HB; have HO290 := n0_; have HO299 := n1_; have HO303 := n2_; have HO312 := n3_; have BK286 := n4_; have BK300 := n5_; have HB := n6_; have BK313 := n7_; have GW313 := n8_; have GE313 := n9_; have NB286_313 := n10_; have NB313_286 := n11_; have NB300_313 := n12_; have NB313_300 := n13_; clear n0_ n1_ n2_ n3_ n4_ n5_ n6_ n7_ n8_ n9_ n10_ n11_ n12_ n13_; clear hb hbox hg; have hnb39 := NB313_286.out; have hnc39 := NB286_313.out; have hnb40 := NB313_300.out; have hnc40 := NB300_313.out; obtain ⟨hcz41_0, hcz41_1, hcz41_2, hcz41_3, hfz41_0, hfz41_1, hfz41_2, hfz41_3⟩ := blk4 BK313.out; obtain ⟨Ao42, co42, eo42⟩ := Kd.R_slice HO312.out; subst eo42; obtain ⟨hcz43_0, hcz43_1, hcz43_2, hcz43_3, hfz43_0, hfz43_1, hfz43_2, hfz43_3⟩ := blk4 BK300.out) | ((with_reducible refine gate_callee (f := 76) rfl ?_); refine goesL_ (some 31) rfl rfl Try.func76 (by kernel_rfl) rfl #[.agg #[.int .i64 t307, .int .i64 t308, .int .i64 t309, .slice Ao42 t310.length co42], .agg #[.int .i64 t294, .int .i64 t295, .int .i64 t296, .slice Ao30 t297.length co30]] rfl (by (try simp only [List.map_toArray, List.map_cons, List.map_nil]); first | done | rfl | (simp only [List.length_drop, List.length_take]; rfl)) ?_; (with_reducible refine (laws_eqOutcome.calls k t307 t308 t309 _ _ t310 t294 t295 t296 _ _ t297 true _ ?side1 ?side2 ?side3 ?side4 A12.out).mono ?_); (case side1 => refine (Kd.R_reads' (e := 33) (base := w.heap.size) (ok := fun k_ => (True ∧ some k_ ≠ (.slice Ao30 t297.length co30 : Value).ownBlock)) (n := t310.length) (c := co42) ?_).2.2; exact (by (with_reducible repeat (first | apply Kd.R_alloc | apply Kd.R_drewN | apply Kd.R_drew)); exact (Kd.R_mono (Kd.R_far (p := ⟨gb313, 3, none⟩) (Kd.R_far (p := ⟨gb313, 2, none⟩) (Kd.R_far (p := ⟨gb313, 1, none⟩) (Kd.R_far (p := ⟨gb313, 0, none⟩) (Kd.R_types HO312.out BK313.out (by decide)) (fun _ hk => hk.2) (.int .i64 t307)) (fun _ hk => hk.2) (.int .i64 t308)) (fun _ hk => hk.2) (.int .i64 t309)) (fun _ hk => hk.2) (.slice Ao42 t310.length co42)) (fun _ h_ => h_.1)))); (case side2 => exact (Kd.R_reads' HO312.out).2.1); (case side3 => refine (Kd.R_reads' (e := 33) (base := w.heap.size) (ok := fun k_ => (True ∧ some k_ ≠ (.slice Ao42 t310.length co42 : Value).ownBlock)) (n := t297.length) (c := co30) ?_).2.2; exact (by (with_reducible repeat (first | apply Kd.R_alloc | apply Kd.R_drewN | apply Kd.R_drew)); exact (Kd.R_mono (Kd.R_far (p := ⟨gb313, 3, none⟩) (Kd.R_far (p := ⟨gb313, 2, none⟩) (Kd.R_far (p := ⟨gb313, 1, none⟩) (Kd.R_far (p := ⟨gb313, 0, none⟩) (Kd.R_types HO299.out BK313.out (by decide)) (fun _ hk => hk.2) (.int .i64 t307)) (fun _ hk => hk.2) (.int .i64 t308)) (fun _ hk => hk.2) (.int .i64 t309)) (fun _ hk => hk.2) (.slice Ao42 t310.length co42)) (fun _ h_ => h_.1)))); (case side4 => exact (Kd.R_reads' HO299.out).2.1); rintro e w44 ⟨rfl, hb⟩; refine ⟨_, rfl, ?_⟩; have n0_ := am (Kd.R_below (by (with_reducible repeat (first | apply Kd.R_alloc | apply Kd.R_drewN | apply Kd.R_drew)); exact (Kd.R_mono (Kd.R_far (p := ⟨gb313, 3, none⟩) (Kd.R_far (p := ⟨gb313, 2, none⟩) (Kd.R_far (p := ⟨gb313, 1, none⟩) (Kd.R_far (p := ⟨gb313, 0, none⟩) (Kd.R_types HO290.out BK313.out (by decide)) (fun _ hk => hk.2) (.int .i64 t307)) (fun _ hk => hk.2) (.int .i64 t308)) (fun _ hk => hk.2) (.int .i64 t309)) (fun _ hk => hk.2) (.slice Ao42 t310.length co42)) (fun _ h_ => h_.1))) hb); have n1_ := am (Kd.R_below (by (with_reducible repeat (first | apply Kd.R_alloc | apply Kd.R_drewN | apply Kd.R_drew)); exact (Kd.R_mono (Kd.R_far (p := ⟨gb313, 3, none⟩) (Kd.R_far (p := ⟨gb313, 2, none⟩) (Kd.R_far (p := ⟨gb313, 1, none⟩) (Kd.R_far (p := ⟨gb313, 0, none⟩) (Kd.R_types HO299.out BK313.out (by decide)) (fun _ hk => hk.2) (.int .i64 t307)) (fun _ hk => hk.2) (.int .i64 t308)) (fun _ hk => hk.2) (.int .i64 t309)) (fun _ hk => hk.2) (.slice Ao42 t310.length co42)) (fun _ h_ => h_.1))) hb); have n2_ := am (Kd.R_below (by (with_reducible repeat (first | apply Kd.R_alloc | apply Kd.R_drewN | apply Kd.R_drew)); exact (Kd.R_mono (Kd.R_far (p := ⟨gb313, 3, none⟩) (Kd.R_far (p := ⟨gb313, 2, none⟩) (Kd.R_far (p := ⟨gb313, 1, none⟩) (Kd.R_far (p := ⟨gb313, 0, none⟩) (Kd.R_types HO303.out BK313.out (by decide)) (fun _ hk => hk.2) (.int .i64 t307)) (fun _ hk => hk.2) (.int .i64 t308)) (fun _ hk => hk.2) (.int .i64 t309)) (fun _ hk => hk.2) (.slice Ao42 t310.length co42)) (fun _ h_ => h_.1))) hb); have n3_ := am (Kd.R_below (by (with_reducible repeat (first | apply Kd.R_alloc | apply Kd.R_drewN | apply Kd.R_drew)); exact (Kd.R_mono (Kd.R_far (p := ⟨gb313, 3, none⟩) (Kd.R_far (p := ⟨gb313, 2, none⟩) (Kd.R_far (p := ⟨gb313, 1, none⟩) (Kd.R_far (p := ⟨gb313, 0, none⟩) (Kd.R_types HO312.out BK313.out (by decide)) (fun _ hk => hk.2) (.int .i64 t307)) (fun _ hk => hk.2) (.int .i64 t308)) (fun _ hk => hk.2) (.int .i64 t309)) (fun _ hk => hk.2) (.slice Ao42 t310.length co42)) (fun _ h_ => h_.1))) hb); have n4_ := am (blk_below (g := gb286) (o := .cells #[.int .i64 a1_0, .int .i64 a1_1, .int .i64 a1_2] 94 (0, 0)) (by (with_reducible repeat (first | apply bN | apply bD | apply bA)); refine blk_far ?_ NB286_313.out _; (with_reducible repeat (first | apply bN | apply bD | apply bA)); refine blk_far ?_ NB286_313.out _; (with_reducible repeat (first | apply bN | apply bD | apply bA)); refine blk_far ?_ NB286_313.out _; (with_reducible repeat (first | apply bN | apply bD | apply bA)); refine blk_far ?_ NB286_313.out _; (with_reducible repeat (first | apply bN | apply bD | apply bA)); exact BK286.out) hb); have n5_ := am (blk_below (g := gb300) (o := .cells #[.int .i64 t294, .int .i64 t295, .int .i64 t296, .slice Ao30 t297.length co30] 105 (0, 0)) (by (with_reducible repeat (first | apply bN | apply bD | apply bA)); refine blk_far ?_ NB300_313.out _; (with_reducible repeat (first | apply bN | apply bD | apply bA)); refine blk_far ?_ NB300_313.out _; (with_reducible repeat (first | apply bN | apply bD | apply bA)); refine blk_far ?_ NB300_313.out _; (with_reducible repeat (first | apply bN | apply bD | apply bA)); refine blk_far ?_ NB300_313.out _; (with_reducible repeat (first | apply bN | apply bD | apply bA)); exact BK300.out) hb); have n6_ := am (blk_below (g := gb313) (o := .cells #[.int .i64 t307, .int .i64 t308, .int .i64 t309, .slice Ao42 t310.length co42] 105 (0, 0)) (by (with_reducible repeat (first | apply bN | apply bD | apply bA)); refine blk_put (cs := #[.int .i64 t307, .int .i64 t308, .int .i64 t309, .slice none 0 0]) ?_ 3 _ rfl; (with_reducible repeat (first | apply bN | apply bD | apply bA)); refine blk_put (cs := #[.int .i64 t307, .int .i64 t308, .int .i64 0, .slice none 0 0]) ?_ 2 _ rfl; (with_reducible repeat (first | apply bN | apply bD | apply bA)); refine blk_put (cs := #[.int .i64 t307, .int .i64 0, .int .i64 0, .slice none 0 0]) ?_ 1 _ rfl; (with_reducible repeat (first | apply bN | apply bD | apply bA)); refine blk_put (cs := #[.int .i64 0, .int .i64 0, .int .i64 0, .slice none 0 0]) ?_ 0 _ rfl; (with_reducible repeat (first | apply bN | apply bD | apply bA)); exact BK313.out) hb); have n7_ := am (below_step (by repeat (first | (with_reducible first | exact HB.out | apply eA | apply eN | apply eD | refine eS ?_ GE286.out | refine eS ?_ GE300.out | refine eS ?_ GE313.out) | exact HB.out)) hb); clear HO290; clear HO299; clear HO303; clear HO312; clear BK286; clear BK300; clear BK313; clear HB; have HO290 := n0_; have HO299 := n1_; have HO303 := n2_; have HO312 := n3_; have BK286 := n4_; have BK300 := n5_; have BK313 := n6_; have HB := n7_; clear n0_ n1_ n2_ n3_ n4_ n5_ n6_ n7_; (try clear hb); (try clear hb2); (try clear hk); (try clear hi)) | ((with_reducible refine gate_callee (f := 17) rfl ?_); refine goesL_ (some 35) rfl rfl Try.func17 (by kernel_rfl) rfl #[.slice A0 l0.length c0] rfl (by (try simp only [List.map_toArray, List.map_cons, List.map_nil]); first | done | rfl | (simp only [List.length_drop, List.length_take]; rfl)) ?_; (with_reducible refine (laws_toRuleS.calls k _ _ l0 t315 _ ?side1 ?side2 A14.out).mono ?_); (case side1 => repeat (first | exact (Kd.C_below HR0.out HB.out) | (with_reducible refine Kd.C_alloc ?_ _) | (with_reducible refine Kd.C_drewN ?_ _) | (with_reducible refine Kd.C_drew ?_))); (case side2 => exact HC0.out); rintro e w45 ⟨v316, rfl, ho0, hb⟩; refine ⟨_, rfl, ?_⟩; have n0_ := am (Kd.R_elder' (by (with_reducible repeat (first | apply Kd.R_alloc | apply Kd.R_drewN | apply Kd.R_drew)); exact HO290.out) (Kd.R_base ho0) hb); have n1_ := am (Kd.R_below (by (with_reducible repeat (first | apply Kd.R_alloc | apply Kd.R_drewN | apply Kd.R_drew)); exact HO299.out) hb); have n2_ := am (Kd.R_elder' (by (with_reducible repeat (first | apply Kd.R_alloc | apply Kd.R_drewN | apply Kd.R_drew)); exact HO303.out) (Kd.R_base ho0) hb); have n3_ := am (Kd.R_below (by (with_reducible repeat (first | apply Kd.R_alloc | apply Kd.R_drewN | apply Kd.R_drew)); exact HO312.out) hb); have n4_ := am (Kd.R_lower (Kd.R_new' (Kd.R_new' ho0 (Kd.R_lt (by (with_reducible repeat (first | apply Kd.R_alloc | apply Kd.R_drewN | apply Kd.R_drew)); exact HO290.out))) (Kd.R_lt (by (with_reducible repeat (first | apply Kd.R_alloc | apply Kd.R_drewN | apply Kd.R_drew)); exact HO303.out))) (below_size (by repeat (first | (with_reducible first | exact HB.out | apply eA | apply eN | apply eD | refine eS ?_ GE286.out | refine eS ?_ GE300.out | refine eS ?_ GE313.out) | exact HB.out)))); have n5_ := am (blk_below (by (with_reducible repeat (first | apply bN | apply bD | apply bA)); exact BK286.out) hb); have n6_ := am (blk_below (by (with_reducible repeat (first | apply bN | apply bD | apply bA)); exact BK300.out) hb); have n7_ := am (blk_below (by (with_reducible repeat (first | apply bN | apply bD | apply bA)); exact BK313.out) hb); have n8_ := am (below_step (by repeat (first | (with_reducible first | exact HB.out | apply eA | apply eN | apply eD | refine eS ?_ GE286.out | refine eS ?_ GE300.out | refine eS ?_ GE313.out) | exact HB.out)) hb); clear HO290; clear HO299; clear HO303; clear HO312; clear BK286; clear BK300; clear BK313; clear HB; have HO290 := n0_; have HO299 := n1_; have HO303 := n2_; have HO312 := n3_; have HO317 := n4_; have BK286 := n5_; have BK300 := n6_; have BK313 := n7_; have HB := n8_; clear n0_ n1_ n2_ n3_ n4_ n5_ n6_ n7_ n8_; (try clear hb); (try clear hb2); (try clear hk); (try clear hi); (try clear ho0); obtain ⟨Ao46, co46, eo46⟩ := Kd.R_slice HO317.out; subst eo46) | ((with_reducible refine gate_callee (f := 20) rfl ?_); refine goesL_ (some 36) rfl rfl Try.func20 (by kernel_rfl) rfl #[.slice Ao36 t301.length co36, .slice Ao46 t315.length co46] rfl (by (try simp only [List.map_toArray, List.map_cons, List.map_nil]); first | done | rfl | (simp only [List.length_drop, List.length_take]; rfl)) ?_; (with_reducible refine (laws_eqRuleS.calls k _ _ t301 _ _ t315 true _ ?side1 ?side2 ?side3 ?side4 A15.out).mono ?_); (case side1 => repeat (first | exact (Kd.R_reads' HO303.out).2.2 | (with_reducible refine Kd.C_alloc ?_ _) | (with_reducible refine Kd.C_drewN ?_ _) | (with_reducible refine Kd.C_drew ?_))); (case side2 => exact (Kd.R_reads' HO303.out).2.1); (case side3 => repeat (first | exact (Kd.R_reads' HO317.out).2.2 | (with_reducible refine Kd.C_alloc ?_ _) | (with_reducible refine Kd.C_drewN ?_ _) | (with_reducible refine Kd.C_drew ?_))); (case side4 => exact (Kd.R_reads' HO317.out).2.1); rintro e w47 ⟨rfl, hb⟩; refine ⟨_, rfl, ?_⟩; have n0_ := am (Kd.R_below (by (with_reducible repeat (first | apply Kd.R_alloc | apply Kd.R_drewN | apply Kd.R_drew)); exact HO290.out) hb); have n1_ := am (Kd.R_below (by (with_reducible repeat (first | apply Kd.R_alloc | apply Kd.R_drewN | apply Kd.R_drew)); exact HO299.out) hb); have n2_ := am (Kd.R_below (by (with_reducible repeat (first | apply Kd.R_alloc | apply Kd.R_drewN | apply Kd.R_drew)); exact HO303.out) hb); have n3_ := am (Kd.R_below (by (with_reducible repeat (first | apply Kd.R_alloc | apply Kd.R_drewN | apply Kd.R_drew)); exact HO312.out) hb); have n4_ := am (Kd.R_below (by (with_reducible repeat (first | apply Kd.R_alloc | apply Kd.R_drewN | apply Kd.R_drew)); exact HO317.out) hb); have n5_ := am (blk_below (by (with_reducible repeat (first | apply bN | apply bD | apply bA)); exact BK286.out) hb); have n6_ := am (blk_below (by (with_reducible repeat (first | apply bN | apply bD | apply bA)); exact BK300.out) hb); have n7_ := am (blk_below (by (with_reducible repeat (first | apply bN | apply bD | apply bA)); exact BK313.out) hb); have n8_ := am (below_step (by repeat (first | (with_reducible first | exact HB.out | apply eA | apply eN | apply eD | refine eS ?_ GE286.out | refine eS ?_ GE300.out | refine eS ?_ GE313.out) | exact HB.out)) hb); clear HO290; clear HO299; clear HO303; clear HO312; clear HO317; clear BK286; clear BK300; clear BK313; clear HB; have HO290 := n0_; have HO299 := n1_; have HO303 := n2_; have HO312 := n3_; have HO317 := n4_; have BK286 := n5_; have BK300 := n6_; have BK313 := n7_; have HB := n8_; clear n0_ n1_ n2_ n3_ n4_ n5_ n6_ n7_ n8_; (try clear hb); (try clear hb2); (try clear hk); (try clear hi)) | ((with_reducible refine gate_callee (f := 34) rfl ?_); refine goesL_ (some 40) rfl rfl Try.func34 (by kernel_rfl) rfl #[.slice Ao36 t301.length co36, .int .i64 1] rfl (by (try simp only [List.map_toArray, List.map_cons, List.map_nil]); first | done | rfl | (simp only [List.length_drop, List.length_take]; rfl)) ?_; (with_reducible refine (laws_markRuleS.calls k (fun k_ => some k_ = (.slice Ao36 t301.length co36 : Value).ownBlock) (.slice Ao36 t301.length co36) t301 1 t319 t320 w _ ?side1 ?side2 A17.out).mono ?_); (case side1 => repeat (first | (with_reducible first | exact HB.out | apply eA | apply eN | apply eD | refine eS ?_ GE286.out | refine eS ?_ GE300.out | refine eS ?_ GE313.out) | exact HB.out)); (case side2 => exact Kd.R_tight rfl HO303.out); rintro e w48 ⟨rfl, hy0, hb, hkp⟩; refine ⟨_, rfl, ?_⟩; have n0_ := am (blk_kept (by (with_reducible repeat (first | apply bN | apply bD | apply bA)); exact BK286.out) hkp (fun hs_ => (fun e_ => (Kd.R_ne HO303.out BK286.out (by decide)) e_) hs_)); have n1_ := am (Kd.R_mono (ok' := fun k_ => some k_ ≠ (.slice Ao36 t301.length co36 : Value).ownBlock ∧ some k_ ≠ (.slice Ao46 t315.length co46 : Value).ownBlock) (Kd.R_keptB (HO290.out) hkp (fun k_ hk_ hs_ => (hk_.1.2) hs_)) (fun k_ hk_ => ⟨hk_.1.1.2, hk_.1.2⟩)); have n2_ := am (Kd.R_mono (ok' := fun k_ => some k_ ≠ (.slice Ao42 t310.length co42 : Value).ownBlock) (Kd.R_keptB ((Kd.R_apart' HO299.out (Kd.R_typed HO303.out) (by decide))) hkp (fun k_ hk_ hs_ => (hk_.2) hs_)) (fun k_ hk_ => hk_.1.1.2)); have n3_ := am (blk_kept (by (with_reducible repeat (first | apply bN | apply bD | apply bA)); exact BK300.out) hkp (fun hs_ => (fun e_ => (Kd.R_ne HO303.out BK300.out (by decide)) e_) hs_)); have n4_ := am (Kd.R_reok rfl hy0 (fun k_ e_ => HO303.out.1 k_ e_)); have n5_ := am (Kd.R_mono (ok' := fun k_ => some k_ ≠ (.slice Ao30 t297.length co30 : Value).ownBlock) (Kd.R_keptB ((Kd.R_apart' HO312.out (Kd.R_typed HO303.out) (by decide))) hkp (fun k_ hk_ hs_ => (hk_.2) hs_)) (fun k_ hk_ => hk_.1.1.2)); have n6_ := am (blk_kept (by (with_reducible repeat (first | apply bN | apply bD | apply bA)); exact BK313.out) hkp (fun hs_ => (fun e_ => (Kd.R_ne HO303.out BK313.out (by decide)) e_) hs_)); have n7_ := am (Kd.R_mono (ok' := fun k_ => some k_ ≠ (v289 : Value).ownBlock ∧ some k_ ≠ (.slice Ao36 t301.length co36 : Value).ownBlock) (Kd.R_keptB (HO317.out) hkp (fun k_ hk_ hs_ => (hk_.2) hs_)) (fun k_ hk_ => ⟨hk_.1.1.2, hk_.1.2⟩)); have n8_ := am (hb); clear BK286; clear HO290; clear HO299; clear BK300; clear HO303; clear HO312; clear BK313; clear HO317; clear HB; have BK286 := n0_; have HO290 := n1_; have HO299 := n2_; have BK300 := n3_; have HO303 := n4_; have HO312 := n5_; have BK313 := n6_; have HO317 := n7_; have HB := n8_; clear n0_ n1_ n2_ n3_ n4_ n5_ n6_ n7_ n8_; (try clear hb); (try clear hkp); (try clear hy0)))
    (try simp only [Act.put, List.setIfInBounds_toArray, List.set_cons_zero, List.set_cons_succ])
    go_cut [48] (fun v48 wc => ∃ (kq : Nat) (x48_17 : Bool), v48 = .bool x48_17 ∧ Aside0 (laws_FnExactFollowRequest.j0 kq l0 x48_17 a1_0 a1_1 a1_2 t294 t295 t296 t297 t307 t308 t309 t310 = some r) ∧ Aside0 (kq ≤ k) ∧ Aside0 (Kd.R k33 33 wc w.heap.size (fun k_ => some k_ ≠ ((.slice Ao42 t310.length co42) : Value).ownBlock) (.slice Ao30 t297.length co30) t297) ∧ Aside0 (Kd.R k33 33 wc w.heap.size (fun k_ => some k_ ≠ ((.slice Ao30 t297.length co30) : Value).ownBlock) (.slice Ao42 t310.length co42) t310) ∧ Aside0 (wc.heap[gb286]? = some (.cells #[.int .i64 a1_0, .int .i64 a1_1, .int .i64 a1_2] 94 (0, 0))) ∧ Aside0 (wc.heap[gb300]? = some (.cells #[.int .i64 t294, .int .i64 t295, .int .i64 t296, (.slice Ao30 t297.length co30)] 105 (0, 0))) ∧ Aside0 (wc.heap[gb313]? = some (.cells #[.int .i64 t307, .int .i64 t308, .int .i64 t309, (.slice Ao42 t310.length co42)] 105 (0, 0))) ∧ Aside0 (Below w.heap.size w wc))
    case first =>
     have H := HC18.out
     clear HC18
     by_cases c49 : t319 < 0
     ·rw [if_pos c49] at H
      have c49b0 : decide (t319 < 0) = true := decide_eq_true c49
      clear c49
      (first | rw [c49b0] | (simp only [i64_w, i32_w]; rw [c49b0]) | skip)
      have H' := Aside0.mk H
      clear H
      go_wp2
      go_meet
      case rel => exact ⟨_, (true), (by first | rfl | (simp; done) | (simp [*]; done)), H', ⟨by first | omega | exact Nat.le_refl _⟩, ⟨by (with_reducible repeat (first | apply Kd.R_alloc | apply Kd.R_drewN | apply Kd.R_drew)); exact HO299.out⟩, ⟨by (with_reducible repeat (first | apply Kd.R_alloc | apply Kd.R_drewN | apply Kd.R_drew)); exact HO312.out⟩, ⟨by (with_reducible repeat (first | apply bN | apply bD | apply bA)); exact BK286.out⟩, ⟨by (with_reducible repeat (first | apply bN | apply bD | apply bA)); exact BK300.out⟩, ⟨by (with_reducible repeat (first | apply bN | apply bD | apply bA)); exact BK313.out⟩, ⟨by repeat (first | (with_reducible first | exact HB.out | apply eA | apply eN | apply eD | refine eS ?_ GE286.out | refine eS ?_ GE300.out | refine eS ?_ GE313.out) | exact HB.out)⟩⟩
     ·rw [if_neg c49] at H
      have c49b0 : decide (t319 < 0) = false := decide_eq_false c49
      clear c49
      (first | rw [c49b0] | (simp only [i64_w, i32_w]; rw [c49b0]) | skip)
      replace H := Option.bind_eq_some_iff.mp H
      obtain ⟨t321, A500, H⟩ := H
      replace H : (laws_FnExactFollowRequest.j0 k l0 (!t321) a1_0 a1_1 a1_2 t294 t295 t296 t297 t307 t308 t309 t310) = some r := H
      have A50 := Aside0.mk A500
      clear A500
      have H' := Aside0.mk H
      clear H
      have hnb51 := NB313_286.out
      have hnc51 := NB286_313.out
      have hnb52 := NB313_300.out
      have hnc52 := NB300_313.out
      have hcz53_0 : w48.cell? ⟨gb313, 0, none⟩ = some (.int .i64 t307) := (blk_cell BK313.out 0).trans rfl
      have hcz53_1 : w48.cell? ⟨gb313, 1, none⟩ = some (.int .i64 t308) := (blk_cell BK313.out 1).trans rfl
      have hcz53_2 : w48.cell? ⟨gb313, 2, none⟩ = some (.int .i64 t309) := (blk_cell BK313.out 2).trans rfl
      have hcz53_3 : w48.cell? ⟨gb313, 3, none⟩ = some (.slice Ao42 t310.length co42) := (blk_cell BK313.out 3).trans rfl
      have hfz53_0 := blk_frozen BK313.out 0
      have hfz53_1 := blk_frozen BK313.out 1
      have hfz53_2 := blk_frozen BK313.out 2
      have hfz53_3 := blk_frozen BK313.out 3
      have hnb54 := NB300_286.out
      have hnc54 := NB286_300.out
      have hcz55_0 : w48.cell? ⟨gb300, 0, none⟩ = some (.int .i64 t294) := (blk_cell BK300.out 0).trans rfl
      have hcz55_1 : w48.cell? ⟨gb300, 1, none⟩ = some (.int .i64 t295) := (blk_cell BK300.out 1).trans rfl
      have hcz55_2 : w48.cell? ⟨gb300, 2, none⟩ = some (.int .i64 t296) := (blk_cell BK300.out 2).trans rfl
      have hcz55_3 : w48.cell? ⟨gb300, 3, none⟩ = some (.slice Ao30 t297.length co30) := (blk_cell BK300.out 3).trans rfl
      have hfz55_0 := blk_frozen BK300.out 0
      have hfz55_1 := blk_frozen BK300.out 1
      have hfz55_2 := blk_frozen BK300.out 2
      have hfz55_3 := blk_frozen BK300.out 3
      go_wp2_with (first | (go_at_call 76; (with_reducible refine (laws_eqOutcome.calls k t307 t308 t309 _ _ t310 t294 t295 t296 _ _ t297 t321 _ ?side1 ?side2 ?side3 ?side4 A50.out).mono ?_); (case side1 => repeat (first | exact (Kd.R_reads' HO312.out).2.2 | (with_reducible refine Kd.C_alloc ?_ _) | (with_reducible refine Kd.C_drewN ?_ _) | (with_reducible refine Kd.C_drew ?_))); (case side2 => exact (Kd.R_reads' HO312.out).2.1); (case side3 => repeat (first | exact (Kd.R_reads' HO299.out).2.2 | (with_reducible refine Kd.C_alloc ?_ _) | (with_reducible refine Kd.C_drewN ?_ _) | (with_reducible refine Kd.C_drew ?_))); (case side4 => exact (Kd.R_reads' HO299.out).2.1); rintro e w56 ⟨rfl, hb⟩; have n0_ := am (Kd.R_below (by (with_reducible repeat (first | apply Kd.R_alloc | apply Kd.R_drewN | apply Kd.R_drew)); exact HO290.out) hb); have n1_ := am (Kd.R_below (by (with_reducible repeat (first | apply Kd.R_alloc | apply Kd.R_drewN | apply Kd.R_drew)); exact HO299.out) hb); have n2_ := am (Kd.R_below (by (with_reducible repeat (first | apply Kd.R_alloc | apply Kd.R_drewN | apply Kd.R_drew)); exact HO303.out) hb); have n3_ := am (Kd.R_below (by (with_reducible repeat (first | apply Kd.R_alloc | apply Kd.R_drewN | apply Kd.R_drew)); exact HO312.out) hb); have n4_ := am (Kd.R_below (by (with_reducible repeat (first | apply Kd.R_alloc | apply Kd.R_drewN | apply Kd.R_drew)); exact HO317.out) hb); have n5_ := am (blk_below (by (with_reducible repeat (first | apply bN | apply bD | apply bA)); exact BK286.out) hb); have n6_ := am (blk_below (by (with_reducible repeat (first | apply bN | apply bD | apply bA)); exact BK300.out) hb); have n7_ := am (blk_below (by (with_reducible repeat (first | apply bN | apply bD | apply bA)); exact BK313.out) hb); have n8_ := am (below_step (by repeat (first | (with_reducible first | exact HB.out | apply eA | apply eN | apply eD | refine eS ?_ GE286.out | refine eS ?_ GE300.out | refine eS ?_ GE313.out) | exact HB.out)) hb); clear HO290; clear HO299; clear HO303; clear HO312; clear HO317; clear BK286; clear BK300; clear BK313; clear HB; have HO290 := n0_; have HO299 := n1_; have HO303 := n2_; have HO312 := n3_; have HO317 := n4_; have BK286 := n5_; have BK300 := n6_; have BK313 := n7_; have HB := n8_; clear n0_ n1_ n2_ n3_ n4_ n5_ n6_ n7_ n8_; (try clear hb); (try clear hb2); (try clear hk); (try clear hi)))
      go_meet
      case rel => exact ⟨_, (!t321), (by first | rfl | (simp; done) | (simp [*]; done)), H', ⟨by first | omega | exact Nat.le_refl _⟩, ⟨by (with_reducible repeat (first | apply Kd.R_alloc | apply Kd.R_drewN | apply Kd.R_drew)); exact HO299.out⟩, ⟨by (with_reducible repeat (first | apply Kd.R_alloc | apply Kd.R_drewN | apply Kd.R_drew)); exact HO312.out⟩, ⟨by (with_reducible repeat (first | apply bN | apply bD | apply bA)); exact BK286.out⟩, ⟨by (with_reducible repeat (first | apply bN | apply bD | apply bA)); exact BK300.out⟩, ⟨by (with_reducible repeat (first | apply bN | apply bD | apply bA)); exact BK313.out⟩, ⟨by repeat (first | (with_reducible first | exact HB.out | apply eA | apply eN | apply eD | refine eS ?_ GE286.out | refine eS ?_ GE300.out | refine eS ?_ GE313.out) | exact HB.out)⟩⟩
    case rest =>
     clear HC18
     try clear c1
     try clear c2
     try clear p2
     try clear c3
     try clear c4
     try clear c5
     try clear c6
     try clear c7
     try clear c13
     try clear c15
     try clear c16
     try clear c17
     try clear c20
     try clear c33
     try clear c34
     try clear c39
     try clear c40
     try clear c49
     try clear c49b0
     try clear c51
     try clear c52
     try clear c54
     try clear hcz34_0
     try clear hcz34_1
     try clear hcz34_2
     try clear hcz41_0
     try clear hcz41_1
     try clear hcz41_2
     try clear hcz41_3
     try clear hcz43_0
     try clear hcz43_1
     try clear hcz43_2
     try clear hcz43_3
     try clear hcz53_0
     try clear hcz53_1
     try clear hcz53_2
     try clear hcz53_3
     try clear hcz55_0
     try clear hcz55_1
     try clear hcz55_2
     try clear hcz55_3
     try clear hfz34_0
     try clear hfz34_1
     try clear hfz34_2
     try clear hfz41_0
     try clear hfz41_1
     try clear hfz41_2
     try clear hfz41_3
     try clear hfz43_0
     try clear hfz43_1
     try clear hfz43_2
     try clear hfz43_3
     try clear hfz53_0
     try clear hfz53_1
     try clear hfz53_2
     try clear hfz53_3
     try clear hfz55_0
     try clear hfz55_1
     try clear hfz55_2
     try clear hfz55_3
     obtain ⟨kq, x48_17, rfl, HA, HJ17, HO_301003, HO_314003, BK286, BK300, BK313, HB⟩ := hcut
     cases kq with
     | zero => exact absurd HA.out (by simp [laws_FnExactFollowRequest.j0])
     | succ kj17 =>
      have H := HA.out
      clear HA
      simp only [laws_FnExactFollowRequest.j0] at H
      by_cases c57 : x48_17 = true
      ·subst c57
       have H1 : (some false) = some r := by rw [if_pos rfl] at H; exact H
       clear H
       have H := H1
       clear H1
       exact absurd ((Option.some.inj H).trans HRT.out) (by decide)
      ·replace c57 := Bool.eq_false_iff.mpr c57
       subst c57
       have H1 : ((laws_markOutcome.f kj17 t307 t308 t309 t310 1).bind fun bt322 => ((laws_heldOutcome.f kj17 t307 t308 t309 bt322.2 1).bind fun t324 => (if t324 < 0 then (some false) else (if t324 = bt322.1 then ((laws_toRuleS.f kj17 l0).bind fun t325 => ((laws_toRequest.f a1_0 a1_1 a1_2).bind fun bt328 => ((impl_FollowRequest.f kj17 t325 bt328.1 bt328.2.1 bt328.2.2).bind fun bt331 => ((laws_eqOutcome.f kj17 bt331.1 bt331.2.1 bt331.2.2.1 bt331.2.2.2 t294 t295 t296 t297).bind fun t338 => (if t338 = true then ((laws_heldOutcome.f kj17 t307 t308 t309 bt322.2 1).bind fun t339 => (if t339 < 0 then (some false) else (if t339 = bt322.1 then (some true) else (some false)))) else (some false)))))) else (some false))))) = some r := by rw [if_neg (show ¬ (false = true) by decide)] at H; exact H
       clear H
       have H := H1
       clear H1
       replace H := Option.bind_eq_some_iff.mp H
       obtain ⟨⟨t322, t323⟩, A580, H⟩ := H
       replace H : ((laws_heldOutcome.f kj17 t307 t308 t309 t323 1).bind fun t324 => (if t324 < 0 then (some false) else (if t324 = t322 then ((laws_toRuleS.f kj17 l0).bind fun t325 => ((laws_toRequest.f a1_0 a1_1 a1_2).bind fun bt328 => ((impl_FollowRequest.f kj17 t325 bt328.1 bt328.2.1 bt328.2.2).bind fun bt331 => ((laws_eqOutcome.f kj17 bt331.1 bt331.2.1 bt331.2.2.1 bt331.2.2.2 t294 t295 t296 t297).bind fun t338 => (if t338 = true then ((laws_heldOutcome.f kj17 t307 t308 t309 t323 1).bind fun t339 => (if t339 < 0 then (some false) else (if t339 = t322 then (some true) else (some false)))) else (some false)))))) else (some false)))) = some r := H
       have A58 := Aside0.mk A580
       clear A580
       replace H := Option.bind_eq_some_iff.mp H
       obtain ⟨t324, A590, H⟩ := H
       replace H : (if t324 < 0 then (some false) else (if t324 = t322 then ((laws_toRuleS.f kj17 l0).bind fun t325 => ((laws_toRequest.f a1_0 a1_1 a1_2).bind fun bt328 => ((impl_FollowRequest.f kj17 t325 bt328.1 bt328.2.1 bt328.2.2).bind fun bt331 => ((laws_eqOutcome.f kj17 bt331.1 bt331.2.1 bt331.2.2.1 bt331.2.2.2 t294 t295 t296 t297).bind fun t338 => (if t338 = true then ((laws_heldOutcome.f kj17 t307 t308 t309 t323 1).bind fun t339 => (if t339 < 0 then (some false) else (if t339 = t322 then (some true) else (some false)))) else (some false)))))) else (some false))) = some r := H
       have A59 := Aside0.mk A590
       clear A590
       by_cases c60 : t324 < 0
       ·rw [if_pos c60] at H
        have c60b0 : decide (t324 < 0) = true := decide_eq_true c60
        clear c60
        exact absurd ((Option.some.inj H).trans HRT.out) (by decide)
       ·rw [if_neg c60] at H
        have c60b0 : decide (t324 < 0) = false := decide_eq_false c60
        clear c60
        by_cases c61 : t324 = t322
        ·rw [if_pos c61] at H
         have c61b0 : (t324 == t322) = true := beq_iff_eq.mpr c61
         have c61b1 : (t324 != t322) = false := bne_eq_false_iff_eq.mpr c61
         clear c61
         replace H := Option.bind_eq_some_iff.mp H
         obtain ⟨t325, A620, H⟩ := H
         replace H : ((laws_toRequest.f a1_0 a1_1 a1_2).bind fun bt328 => ((impl_FollowRequest.f kj17 t325 bt328.1 bt328.2.1 bt328.2.2).bind fun bt331 => ((laws_eqOutcome.f kj17 bt331.1 bt331.2.1 bt331.2.2.1 bt331.2.2.2 t294 t295 t296 t297).bind fun t338 => (if t338 = true then ((laws_heldOutcome.f kj17 t307 t308 t309 t323 1).bind fun t339 => (if t339 < 0 then (some false) else (if t339 = t322 then (some true) else (some false)))) else (some false))))) = some r := H
         have A62 := Aside0.mk A620
         clear A620
         replace H := Option.bind_eq_some_iff.mp H
         obtain ⟨⟨t328, t329, t330⟩, A630, H⟩ := H
         replace H : ((impl_FollowRequest.f kj17 t325 t328 t329 t330).bind fun bt331 => ((laws_eqOutcome.f kj17 bt331.1 bt331.2.1 bt331.2.2.1 bt331.2.2.2 t294 t295 t296 t297).bind fun t338 => (if t338 = true then ((laws_heldOutcome.f kj17 t307 t308 t309 t323 1).bind fun t339 => (if t339 < 0 then (some false) else (if t339 = t322 then (some true) else (some false)))) else (some false)))) = some r := H
         have A63 := Aside0.mk A630
         clear A630
         replace H := Option.bind_eq_some_iff.mp H
         obtain ⟨⟨t331, t332, t333, t334⟩, A640, H⟩ := H
         replace H : ((laws_eqOutcome.f kj17 t331 t332 t333 t334 t294 t295 t296 t297).bind fun t338 => (if t338 = true then ((laws_heldOutcome.f kj17 t307 t308 t309 t323 1).bind fun t339 => (if t339 < 0 then (some false) else (if t339 = t322 then (some true) else (some false)))) else (some false))) = some r := H
         have A64 := Aside0.mk A640
         clear A640
         replace H := Option.bind_eq_some_iff.mp H
         obtain ⟨t338, A650, H⟩ := H
         replace H : (if t338 = true then ((laws_heldOutcome.f kj17 t307 t308 t309 t323 1).bind fun t339 => (if t339 < 0 then (some false) else (if t339 = t322 then (some true) else (some false)))) else (some false)) = some r := H
         have A65 := Aside0.mk A650
         clear A650
         by_cases c66 : t338 = true
         ·subst c66
          have H1 : ((laws_heldOutcome.f kj17 t307 t308 t309 t323 1).bind fun t339 => (if t339 < 0 then (some false) else (if t339 = t322 then (some true) else (some false)))) = some r := by rw [if_pos rfl] at H; exact H
          clear H
          have H := H1
          clear H1
          replace H := Option.bind_eq_some_iff.mp H
          obtain ⟨t339, A670, H⟩ := H
          replace H : (if t339 < 0 then (some false) else (if t339 = t322 then (some true) else (some false))) = some r := H
          have A67 := Aside0.mk A670
          clear A670
          by_cases c68 : t339 < 0
          ·rw [if_pos c68] at H
           have c68b0 : decide (t339 < 0) = true := decide_eq_true c68
           clear c68
           exact absurd ((Option.some.inj H).trans HRT.out) (by decide)
          ·rw [if_neg c68] at H
           have c68b0 : decide (t339 < 0) = false := decide_eq_false c68
           clear c68
           by_cases c69 : t339 = t322
           ·rw [if_pos c69] at H
            have c69b0 : (t339 == t322) = true := beq_iff_eq.mpr c69
            have c69b1 : (t339 != t322) = false := bne_eq_false_iff_eq.mpr c69
            clear c69
            obtain rfl := Option.some.inj H
            have hnb70 := NB313_286.out
            have hnc70 := NB286_313.out
            have hnb71 := NB313_300.out
            have hnc71 := NB300_313.out
            have hcz72_0 : wc.cell? ⟨gb313, 0, none⟩ = some (.int .i64 t307) := (blk_cell BK313.out 0).trans rfl
            have hcz72_1 : wc.cell? ⟨gb313, 1, none⟩ = some (.int .i64 t308) := (blk_cell BK313.out 1).trans rfl
            have hcz72_2 : wc.cell? ⟨gb313, 2, none⟩ = some (.int .i64 t309) := (blk_cell BK313.out 2).trans rfl
            have hcz72_3 : wc.cell? ⟨gb313, 3, none⟩ = some (.slice Ao42 t310.length co42) := (blk_cell BK313.out 3).trans rfl
            have hfz72_0 := blk_frozen BK313.out 0
            have hfz72_1 := blk_frozen BK313.out 1
            have hfz72_2 := blk_frozen BK313.out 2
            have hfz72_3 := blk_frozen BK313.out 3
            try go_wp2_with (first | ((with_reducible refine gate_callee (f := 77) rfl ?_); refine goesL_ (some 51) rfl rfl Try.func77 (by kernel_rfl) rfl #[.agg #[.int .i64 t307, .int .i64 t308, .int .i64 t309, .slice Ao42 t310.length co42], .int .i64 1] rfl (by (try simp only [List.map_toArray, List.map_cons, List.map_nil]); first | done | rfl | (simp only [List.length_drop, List.length_take]; rfl)) ?_; (with_reducible refine (laws_markOutcome.calls kj17 t307 t308 t309 (fun k_ => some k_ = (.slice Ao42 t310.length co42 : Value).ownBlock) (.slice Ao42 t310.length co42) t310 1 t322 t323 w _ ?side1 ?side2 A58.out).mono ?_); (case side1 => repeat (first | (with_reducible first | exact HB.out | apply eA | apply eN | apply eD | refine eS ?_ GE286.out | refine eS ?_ GE300.out | refine eS ?_ GE313.out) | exact HB.out)); (case side2 => exact Kd.R_tight rfl HO_314003.out); rintro e w73 ⟨rfl, hy0, hb, hkp⟩; refine ⟨_, rfl, ?_⟩; have n0_ := am (Kd.R_mono (ok' := fun k_ => some k_ ≠ (.slice Ao42 t310.length co42 : Value).ownBlock) (Kd.R_keptB (HO_301003.out) hkp (fun k_ hk_ hs_ => (hk_) hs_)) (fun k_ hk_ => hk_.1)); have n1_ := am (Kd.R_reok rfl hy0 (fun k_ e_ => HO_314003.out.1 k_ e_)); have n2_ := am (blk_kept (by (with_reducible repeat (first | apply bN | apply bD | apply bA)); exact BK286.out) hkp (fun hs_ => (fun e_ => (Kd.R_ne HO_314003.out BK286.out (by decide)) e_) hs_)); have n3_ := am (blk_kept (by (with_reducible repeat (first | apply bN | apply bD | apply bA)); exact BK300.out) hkp (fun hs_ => (fun e_ => (Kd.R_ne HO_314003.out BK300.out (by decide)) e_) hs_)); have n4_ := am (blk_kept (by (with_reducible repeat (first | apply bN | apply bD | apply bA)); exact BK313.out) hkp (fun hs_ => (fun e_ => (Kd.R_ne HO_314003.out BK313.out (by decide)) e_) hs_)); have n5_ := am (hb); clear HO_301003; clear HO_314003; clear BK286; clear BK300; clear BK313; clear HB; have HO_301003 := n0_; have HO_314003 := n1_; have BK286 := n2_; have BK300 := n3_; have BK313 := n4_; have HB := n5_; clear n0_ n1_ n2_ n3_ n4_ n5_; (try clear hb); (try clear hkp); (try clear hy0); obtain ⟨hcz74_0, hcz74_1, hcz74_2, hcz74_3, hfz74_0, hfz74_1, hfz74_2, hfz74_3⟩ := blk4 BK313.out) | ((with_reducible refine gate_callee (f := 78) rfl ?_); refine goesL_ (some 54) rfl rfl Try.func78 (by kernel_rfl) rfl #[.agg #[.int .i64 t307, .int .i64 t308, .int .i64 t309, .slice Ao42 t323.length co42], .int .i64 1] rfl (by (try simp only [List.map_toArray, List.map_cons, List.map_nil]); first | done | (rw [show t323.length = t310.length from (Kd.R_reads' HO_314003.out).1.symm] <;> rfl) | rfl | (simp only [List.length_drop, List.length_take]; rfl)) ?_; (with_reducible refine (laws_heldOutcome.calls kj17 t307 t308 t309 _ _ t323 1 t324 _ ?side1 ?side2 A59.out).mono ?_); (case side1 => repeat (first | exact (Kd.R_reads' HO_314003.out).2.2 | (with_reducible refine Kd.C_alloc ?_ _) | (with_reducible refine Kd.C_drewN ?_ _) | (with_reducible refine Kd.C_drew ?_))); (case side2 => rw [show t323.length = t310.length from (Kd.R_reads' HO_314003.out).1.symm]; exact (Kd.R_reads' HO_314003.out).2.1); rintro e w75 ⟨rfl, hb⟩; refine ⟨_, rfl, ?_⟩; have n0_ := am (Kd.R_below (by (with_reducible repeat (first | apply Kd.R_alloc | apply Kd.R_drewN | apply Kd.R_drew)); exact HO_301003.out) hb); have n1_ := am (Kd.R_below (by (with_reducible repeat (first | apply Kd.R_alloc | apply Kd.R_drewN | apply Kd.R_drew)); exact HO_314003.out) hb); have n2_ := am (blk_below (by (with_reducible repeat (first | apply bN | apply bD | apply bA)); exact BK286.out) hb); have n3_ := am (blk_below (by (with_reducible repeat (first | apply bN | apply bD | apply bA)); exact BK300.out) hb); have n4_ := am (blk_below (by (with_reducible repeat (first | apply bN | apply bD | apply bA)); exact BK313.out) hb); have n5_ := am (below_step (by repeat (first | (with_reducible first | exact HB.out | apply eA | apply eN | apply eD | refine eS ?_ GE286.out | refine eS ?_ GE300.out | refine eS ?_ GE313.out) | exact HB.out)) hb); clear HO_301003; clear HO_314003; clear BK286; clear BK300; clear BK313; clear HB; have HO_301003 := n0_; have HO_314003 := n1_; have BK286 := n2_; have BK300 := n3_; have BK313 := n4_; have HB := n5_; clear n0_ n1_ n2_ n3_ n4_ n5_; (try clear hb); (try clear hb2); (try clear hk); (try clear hi)))
            have n0_ := am (Kd.R_drew HO_301003.out)
            have n1_ := am (Kd.R_drew HO_314003.out)
            have n2_ := am (blk_drew BK286.out)
            have n3_ := am (blk_drew BK300.out)
            have n4_ := am (blk_drew BK313.out)
            have n5_ := am (below_drew1 HB.out)
            clear HO_301003
            clear HO_314003
            clear BK286
            clear BK300
            clear BK313
            clear HB
            have HO_301003 := n0_
            have HO_314003 := n1_
            have BK286 := n2_
            have BK300 := n3_
            have BK313 := n4_
            have HB := n5_
            clear n0_ n1_ n2_ n3_ n4_ n5_
            refine start_ (n := 7) (S := fun w' => w'.cell? ⟨gb286, 0, none⟩ = some (.int .i64 a1_0) ∧ w'.cell? ⟨gb286, 1, none⟩ = some (.int .i64 a1_1) ∧ w'.cell? ⟨gb286, 2, none⟩ = some (.int .i64 a1_2)) (ds := []) #[false, false, false, false, false, false, false] (by kernel_rfl) rfl rfl ⟨(blk_cell BK286.out 0).trans rfl, (blk_cell BK286.out 1).trans rfl, (blk_cell BK286.out 2).trans rfl⟩ (fun hHeld => ?_)
            generalize w75.drew = w76 at HO_301003 HO_314003 BK286 BK300 BK313 HB hHeld ⊢
            refine pure_ (i := 0) (N := some 60) (v := ?_) (a' := ?_) #[true, false, false, false, false, false, false] rfl rfl (by kernel_rfl) (fun _ _ _ h => h) (Or.inl ⟨by rfl, ?_⟩) ?_ ?_
            rotate_left
            ·intro w'
             go_simp
             with_reducible rfl
            rotate_left
            ·simp only [Act.put, List.setIfInBounds_toArray, List.set_cons_zero, List.set_cons_succ, i64_w, i32_w]
             rfl
            refine take_ (i := 2) (N := some 62) (v := ?_) (a' := ?_) #[true, false, true, false, false, false, false] rfl rfl (by kernel_rfl) (fun _ _ _ h => h) (Or.inl ⟨by rfl, ?_⟩) hHeld ?_ ?_
            rotate_left
            ·rintro w' ⟨s0, s1, s2⟩
             go_simp
             with_reducible rfl
            rotate_left
            ·simp only [Act.put, List.setIfInBounds_toArray, List.set_cons_zero, List.set_cons_succ, i64_w, i32_w]
             rfl
            refine join_ (σ := Value × Value × Nat) 1 #[true, true, true, true, true, true, false] (fun s_ => [(61, s_.1), (63, .agg #[.int .i64 t328, .int .i64 t329, .int .i64 t330]), (64, .agg #[.int .i64 t331, .int .i64 t332, .int .i64 t333, s_.2.1]), (12, .pointer (some ⟨s_.2.2, 0, none⟩))]) (fun s_ w' => (w'.cell? ⟨gb286, 0, none⟩ = some (.int .i64 a1_0) ∧ w'.cell? ⟨gb286, 1, none⟩ = some (.int .i64 a1_1) ∧ w'.cell? ⟨gb286, 2, none⟩ = some (.int .i64 a1_2)) ∧ (Kd.R k35 35 w' w.heap.size (fun _ => True) s_.1 t325) ∧ (Kd.R k33 33 w' w.heap.size (fun k_ => some k_ ≠ (.slice Ao30 t297.length co30 : Value).ownBlock ∧ some k_ ≠ (.slice Ao42 t310.length co42 : Value).ownBlock) s_.2.1 t334) ∧ (Kd.R k33 33 w' w.heap.size (fun k_ => some k_ ≠ (s_.2.1 : Value).ownBlock ∧ some k_ ≠ (.slice Ao42 t310.length co42 : Value).ownBlock) (.slice Ao30 t297.length co30) t297) ∧ (Kd.R k33 33 w' w.heap.size (fun k_ => some k_ ≠ (s_.2.1 : Value).ownBlock ∧ some k_ ≠ (.slice Ao30 t297.length co30 : Value).ownBlock) (.slice Ao42 t310.length co42) t323) ∧ (w'.heap[gb286]? = some (.cells #[.int .i64 a1_0, .int .i64 a1_1, .int .i64 a1_2] 94 (0, 0))) ∧ (w'.heap[gb300]? = some (.cells #[.int .i64 t294, .int .i64 t295, .int .i64 t296, .slice Ao30 t297.length co30] 105 (0, 0))) ∧ (w'.heap[gb313]? = some (.cells #[.int .i64 t307, .int .i64 t308, .int .i64 t309, .slice Ao42 t310.length co42] 105 (0, 0))) ∧ (w'.heap[s_.2.2]? = some (.cells #[.int .i64 0, .int .i64 0, .int .i64 0, .slice none 0 0] 105 (0, 0))) ∧ (w.heap.size ≤ s_.2.2) ∧ (w.heap.size ≤ s_.2.2) ∧ (gb286 ≠ s_.2.2) ∧ (s_.2.2 ≠ gb286) ∧ (gb300 ≠ s_.2.2) ∧ (s_.2.2 ≠ gb300) ∧ (gb313 ≠ s_.2.2) ∧ (s_.2.2 ≠ gb313) ∧ (Below w.heap.size w w')) ?_ ?_
            rotate_left
            ·intro hCont
             refine two_ (i := 1) (j := 5) (Ni := some 61) (Nj := some 12) #[true, true, true, false, false, false, false] #[true, false, true, false, false, true, false] rfl rfl rfl rfl (by kernel_rfl) (by decide) (by decide) (fun K hK => ?_) (fun K hK => ?_)
             ·skip
              refine goes_ Try.func17 (by kernel_rfl) rfl #[.slice A0 l0.length c0] (by rfl) rfl rfl (by (try simp only [List.map_toArray, List.map_cons, List.map_nil]); first | done | rfl | (simp only [List.length_drop, List.length_take]; rfl)) ?_
              with_reducible refine (laws_toRuleS.calls kj17 _ _ l0 t325 _ ?side1 ?side2 A62.out).mono ?_
              (case side1 => repeat (first | exact (Kd.C_below HR0.out HB.out) | (with_reducible refine Kd.C_alloc ?_ _) | (with_reducible refine Kd.C_drewN ?_ _) | (with_reducible refine Kd.C_drew ?_)))
              (case side2 => exact HC0.out)
              rintro e w77 ⟨v326, rfl, ho0, hb⟩
              refine ⟨_, rfl, ?_⟩
              have n0_ := am (Kd.R_below (by (with_reducible repeat (first | apply Kd.R_alloc | apply Kd.R_drewN | apply Kd.R_drew)); exact HO_301003.out) hb)
              have n1_ := am (Kd.R_below (by (with_reducible repeat (first | apply Kd.R_alloc | apply Kd.R_drewN | apply Kd.R_drew)); exact HO_314003.out) hb)
              have n2_ := am (Kd.R_lower ho0 (below_size (by repeat (first | (with_reducible first | exact HB.out | apply eA | apply eN | apply eD | refine eS ?_ GE286.out | refine eS ?_ GE300.out | refine eS ?_ GE313.out) | exact HB.out))))
              have n3_ := am (blk_below (by (with_reducible repeat (first | apply bN | apply bD | apply bA)); exact BK286.out) hb)
              have n4_ := am (blk_below (by (with_reducible repeat (first | apply bN | apply bD | apply bA)); exact BK300.out) hb)
              have n5_ := am (blk_below (by (with_reducible repeat (first | apply bN | apply bD | apply bA)); exact BK313.out) hb)
              have n6_ := am (below_step (by repeat (first | (with_reducible first | exact HB.out | apply eA | apply eN | apply eD | refine eS ?_ GE286.out | refine eS ?_ GE300.out | refine eS ?_ GE313.out) | exact HB.out)) hb)
              clear HO_301003
              clear HO_314003
              clear BK286
              clear BK300
              clear BK313
              clear HB
              have HO_301003 := n0_
              have HO_314003 := n1_
              have HO327 := n2_
              have BK286 := n3_
              have BK300 := n4_
              have BK313 := n5_
              have HB := n6_
              clear n0_ n1_ n2_ n3_ n4_ n5_ n6_
              (try clear hb)
              (try clear hb2)
              (try clear hk)
              (try clear hi)
              (try clear ho0)
              refine hK.out _ _ ⟨(blk_cell BK286.out 0).trans rfl, (blk_cell BK286.out 1).trans rfl, (blk_cell BK286.out 2).trans rfl⟩ (fun hHeld => ?_)
              clear hK K
              refine norm_ (a' := ?_) ?_ ?_
              rotate_left
              ·show Act.put _ (some 61) _ = _
               simp only [Act.put, List.setIfInBounds_toArray, List.set_cons_zero, List.set_cons_succ, i64_w, i32_w]
               rfl
              refine two_ (i := 3) (j := 5) (Ni := some 63) (Nj := some 12) #[true, true, true, true, false, false, false] #[true, true, true, false, false, true, false] rfl rfl rfl rfl (by kernel_rfl) (by decide) (by decide) (fun K hK => ?_) (fun K hK => ?_)
              ·skip
               refine goes_ Try.func67 (by kernel_rfl) rfl #[.agg #[.int .i64 a1_0, .int .i64 a1_1, .int .i64 a1_2]] (by rfl) rfl rfl (by (try simp only [List.map_toArray, List.map_cons, List.map_nil]); first | done | rfl | (simp only [List.length_drop, List.length_take]; rfl)) ?_
               with_reducible refine (laws_toRequest.calls a1_0 a1_1 a1_2 t328 t329 t330 _ A63.out).mono ?_
               rintro e w78 ⟨rfl, hb⟩
               refine ⟨_, rfl, ?_⟩
               have n0_ := am (Kd.R_below (by (with_reducible repeat (first | apply Kd.R_alloc | apply Kd.R_drewN | apply Kd.R_drew)); exact HO_301003.out) hb)
               have n1_ := am (Kd.R_below (by (with_reducible repeat (first | apply Kd.R_alloc | apply Kd.R_drewN | apply Kd.R_drew)); exact HO_314003.out) hb)
               have n2_ := am (Kd.R_below (by (with_reducible repeat (first | apply Kd.R_alloc | apply Kd.R_drewN | apply Kd.R_drew)); exact HO327.out) hb)
               have n3_ := am (blk_below (by (with_reducible repeat (first | apply bN | apply bD | apply bA)); exact BK286.out) hb)
               have n4_ := am (blk_below (by (with_reducible repeat (first | apply bN | apply bD | apply bA)); exact BK300.out) hb)
               have n5_ := am (blk_below (by (with_reducible repeat (first | apply bN | apply bD | apply bA)); exact BK313.out) hb)
               have n6_ := am (below_step (by repeat (first | (with_reducible first | exact HB.out | apply eA | apply eN | apply eD | refine eS ?_ GE286.out | refine eS ?_ GE300.out | refine eS ?_ GE313.out) | exact HB.out)) hb)
               clear HO_301003
               clear HO_314003
               clear HO327
               clear BK286
               clear BK300
               clear BK313
               clear HB
               have HO_301003 := n0_
               have HO_314003 := n1_
               have HO327 := n2_
               have BK286 := n3_
               have BK300 := n4_
               have BK313 := n5_
               have HB := n6_
               clear n0_ n1_ n2_ n3_ n4_ n5_ n6_
               (try clear hb)
               (try clear hb2)
               (try clear hk)
               (try clear hi)
               obtain ⟨Ao79, co79, eo79⟩ := Kd.R_slice HO327.out
               (first | subst eo79 | (injection eo79 with f1_ f2_ f3_; have f4_ := f1_.symm; have f5_ := f3_.symm; clear f1_ f2_ f3_; subst f4_; subst f5_))
               refine hK.out _ _ ⟨(blk_cell BK286.out 0).trans rfl, (blk_cell BK286.out 1).trans rfl, (blk_cell BK286.out 2).trans rfl⟩ (fun hHeld => ?_)
               clear hK K
               refine norm_ (a' := ?_) ?_ ?_
               rotate_left
               ·show Act.put _ (some 63) _ = _
                simp only [Act.put, List.setIfInBounds_toArray, List.set_cons_zero, List.set_cons_succ, i64_w, i32_w]
                rfl
               refine two_ (i := 4) (j := 5) (Ni := some 64) (Nj := some 12) #[true, true, true, true, true, false, false] #[true, true, true, true, false, true, false] rfl rfl rfl rfl (by kernel_rfl) (by decide) (by decide) (fun K hK => ?_) (fun K hK => ?_)
               ·skip
                refine goes_ Try.func75 (by kernel_rfl) rfl #[.slice Ao79 t325.length co79, .agg #[.int .i64 t328, .int .i64 t329, .int .i64 t330]] (by rfl) rfl rfl (by (try simp only [List.map_toArray, List.map_cons, List.map_nil]); first | done | rfl | (simp only [List.length_drop, List.length_take]; rfl)) ?_
                with_reducible refine (impl_FollowRequest.calls kj17 _ _ t325 t328 t329 t330 t331 t332 t333 t334 _ ?side1 ?side2 A64.out).mono ?_
                (case side1 => repeat (first | exact (Kd.R_reads' HO327.out).2.2 | (with_reducible refine Kd.C_alloc ?_ _) | (with_reducible refine Kd.C_drewN ?_ _) | (with_reducible refine Kd.C_drew ?_)))
                (case side2 => exact (Kd.R_reads' HO327.out).2.1)
                rintro e w80 ⟨v335, rfl, ho0, hb⟩
                refine ⟨_, rfl, ?_⟩
                have n0_ := am (Kd.R_elder' (by (with_reducible repeat (first | apply Kd.R_alloc | apply Kd.R_drewN | apply Kd.R_drew)); exact HO_301003.out) (Kd.R_base ho0) hb)
                have n1_ := am (Kd.R_elder' (by (with_reducible repeat (first | apply Kd.R_alloc | apply Kd.R_drewN | apply Kd.R_drew)); exact HO_314003.out) (Kd.R_base ho0) hb)
                have n2_ := am (Kd.R_below (by (with_reducible repeat (first | apply Kd.R_alloc | apply Kd.R_drewN | apply Kd.R_drew)); exact HO327.out) hb)
                have n3_ := am (Kd.R_lower (Kd.R_new' (Kd.R_new' ho0 (Kd.R_lt (by (with_reducible repeat (first | apply Kd.R_alloc | apply Kd.R_drewN | apply Kd.R_drew)); exact HO_301003.out))) (Kd.R_lt (by (with_reducible repeat (first | apply Kd.R_alloc | apply Kd.R_drewN | apply Kd.R_drew)); exact HO_314003.out))) (below_size (by repeat (first | (with_reducible first | exact HB.out | apply eA | apply eN | apply eD | refine eS ?_ GE286.out | refine eS ?_ GE300.out | refine eS ?_ GE313.out) | exact HB.out))))
                have n4_ := am (blk_below (by (with_reducible repeat (first | apply bN | apply bD | apply bA)); exact BK286.out) hb)
                have n5_ := am (blk_below (by (with_reducible repeat (first | apply bN | apply bD | apply bA)); exact BK300.out) hb)
                have n6_ := am (blk_below (by (with_reducible repeat (first | apply bN | apply bD | apply bA)); exact BK313.out) hb)
                have n7_ := am (below_step (by repeat (first | (with_reducible first | exact HB.out | apply eA | apply eN | apply eD | refine eS ?_ GE286.out | refine eS ?_ GE300.out | refine eS ?_ GE313.out) | exact HB.out)) hb)
                clear HO_301003
                clear HO_314003
                clear HO327
                clear BK286
                clear BK300
                clear BK313
                clear HB
                have HO_301003 := n0_
                have HO_314003 := n1_
                have HO327 := n2_
                have HO336 := n3_
                have BK286 := n4_
                have BK300 := n5_
                have BK313 := n6_
                have HB := n7_
                clear n0_ n1_ n2_ n3_ n4_ n5_ n6_ n7_
                (try clear hb)
                (try clear hb2)
                (try clear hk)
                (try clear hi)
                (try clear ho0)
                refine hK.out _ _ ⟨(blk_cell BK286.out 0).trans rfl, (blk_cell BK286.out 1).trans rfl, (blk_cell BK286.out 2).trans rfl⟩ (fun hHeld => ?_)
                clear hK K
                refine norm_ (a' := ?_) ?_ ?_
                rotate_left
                ·show Act.put _ (some 64) _ = _
                 simp only [Act.put, List.setIfInBounds_toArray, List.set_cons_zero, List.set_cons_succ, i64_w, i32_w]
                 rfl
                refine one_ (i := 5) (N := some 12) #[true, true, true, true, true, true, false] rfl rfl (by kernel_rfl) (by decide) (fun K hK => ?_)
                refine box_step ?hg (N := 12) ?hd (cs := #[.int .i64 0, .int .i64 0, .int .i64 0, .slice none 0 0]) (t := 105) ?hr ?_; (case hd => rfl); (case hg => rfl); (case hr => first | (go_simp; done) | (go_simp; rfl))
                intro gb337 hg w81 hbox hb
                have n0_ := am (Kd.R_below (by (with_reducible repeat (first | apply Kd.R_alloc | apply Kd.R_drewN | apply Kd.R_drew)); exact HO_301003.out) hb)
                have n1_ := am (Kd.R_below (by (with_reducible repeat (first | apply Kd.R_alloc | apply Kd.R_drewN | apply Kd.R_drew)); exact HO_314003.out) hb)
                have n2_ := am (Kd.R_below (by (with_reducible repeat (first | apply Kd.R_alloc | apply Kd.R_drewN | apply Kd.R_drew)); exact HO327.out) hb)
                have n3_ := am (Kd.R_below (by (with_reducible repeat (first | apply Kd.R_alloc | apply Kd.R_drewN | apply Kd.R_drew)); exact HO336.out) hb)
                have n4_ := am (blk_below (by (with_reducible repeat (first | apply bN | apply bD | apply bA)); exact BK286.out) hb)
                have n5_ := am (blk_below (by (with_reducible repeat (first | apply bN | apply bD | apply bA)); exact BK300.out) hb)
                have n6_ := am (blk_below (by (with_reducible repeat (first | apply bN | apply bD | apply bA)); exact BK313.out) hb)
                have n7_ := am (below_step (by repeat (first | (with_reducible first | exact HB.out | apply eA | apply eN | apply eD | refine eS ?_ GE286.out | refine eS ?_ GE300.out | refine eS ?_ GE313.out) | exact HB.out)) hb)
                have n8_ := am (hbox)
                have n9_ := am ((by rw [hg]; exact (below_size (by repeat (first | (with_reducible first | exact HB.out | apply eA | apply eN | apply eD | refine eS ?_ GE286.out | refine eS ?_ GE300.out | refine eS ?_ GE313.out) | exact HB.out))) : w.heap.size ≤ gb337))
                have n10_ := am ((by rw [hg]; exact (below_size (by repeat (first | (with_reducible first | exact HB.out | apply eA | apply eN | apply eD | refine eS ?_ GE286.out | refine eS ?_ GE300.out | refine eS ?_ GE313.out) | exact HB.out))) : w.heap.size ≤ gb337))
                have n11_ := am ((by rw [hg]; exact Nat.ne_of_lt (blk_lt (g := gb286) (o := .cells #[.int .i64 a1_0, .int .i64 a1_1, .int .i64 a1_2] 94 (0, 0)) (by (with_reducible repeat (first | apply bN | apply bD | apply bA)); exact BK286.out)) : gb286 ≠ gb337))
                have n12_ := am ((by rw [hg]; exact Nat.ne_of_gt (blk_lt (g := gb286) (o := .cells #[.int .i64 a1_0, .int .i64 a1_1, .int .i64 a1_2] 94 (0, 0)) (by (with_reducible repeat (first | apply bN | apply bD | apply bA)); exact BK286.out)) : gb337 ≠ gb286))
                have n13_ := am ((by rw [hg]; exact Nat.ne_of_lt (blk_lt (g := gb300) (o := .cells #[.int .i64 t294, .int .i64 t295, .int .i64 t296, .slice Ao30 t297.length co30] 105 (0, 0)) (by (with_reducible repeat (first | apply bN | apply bD | apply bA)); exact BK300.out)) : gb300 ≠ gb337))
                have n14_ := am ((by rw [hg]; exact Nat.ne_of_gt (blk_lt (g := gb300) (o := .cells #[.int .i64 t294, .int .i64 t295, .int .i64 t296, .slice Ao30 t297.length co30] 105 (0, 0)) (by (with_reducible repeat (first | apply bN | apply bD | apply bA)); exact BK300.out)) : gb337 ≠ gb300))
                have n15_ := am ((by rw [hg]; exact Nat.ne_of_lt (blk_lt (g := gb313) (o := .cells #[.int .i64 t307, .int .i64 t308, .int .i64 t309, .slice Ao42 t310.length co42] 105 (0, 0)) (by (with_reducible repeat (first | apply bN | apply bD | apply bA)); exact BK313.out)) : gb313 ≠ gb337))
                have n16_ := am ((by rw [hg]; exact Nat.ne_of_gt (blk_lt (g := gb313) (o := .cells #[.int .i64 t307, .int .i64 t308, .int .i64 t309, .slice Ao42 t310.length co42] 105 (0, 0)) (by (with_reducible repeat (first | apply bN | apply bD | apply bA)); exact BK313.out)) : gb337 ≠ gb313))
                clear HO_301003
                clear HO_314003
                clear HO327
                clear HO336
                clear BK286
                clear BK300
                clear BK313
                clear HB
                have HO_301003 := n0_
                have HO_314003 := n1_
                have HO327 := n2_
                have HO336 := n3_
                have BK286 := n4_
                have BK300 := n5_
                have BK313 := n6_
                have HB := n7_
                have BK337 := n8_
                have GW337 := n9_
                have GE337 := n10_
                have NB286_337 := n11_
                have NB337_286 := n12_
                have NB300_337 := n13_
                have NB337_300 := n14_
                have NB313_337 := n15_
                have NB337_313 := n16_
                clear n0_ n1_ n2_ n3_ n4_ n5_ n6_ n7_ n8_ n9_ n10_ n11_ n12_ n13_ n14_ n15_ n16_
                clear hb hbox hg
                refine hK.out _ _ ⟨(blk_cell BK286.out 0).trans rfl, (blk_cell BK286.out 1).trans rfl, (blk_cell BK286.out 2).trans rfl⟩ (fun hHeld => ?_)
                clear hK K
                refine norm_ (a' := ?_) ?_ ?_
                rotate_left
                ·show Act.put _ (some 12) _ = _
                 simp only [Act.put, List.setIfInBounds_toArray, List.set_cons_zero, List.set_cons_succ, i64_w, i32_w]
                 rfl
                exact norm_ (by simp only [putAll, Act.put, List.setIfInBounds_toArray, List.set_cons_zero, List.set_cons_succ]) (hCont (.slice Ao79 t325.length co79, v335, gb337) _ ⟨hHeld, (by (with_reducible repeat (first | apply Kd.R_alloc | apply Kd.R_drewN | apply Kd.R_drew)); exact HO327.out), (by (with_reducible repeat (first | apply Kd.R_alloc | apply Kd.R_drewN | apply Kd.R_drew)); exact Kd.R_mono HO336.out (fun _ hk => ⟨hk.1.2, hk.2⟩)), (by (with_reducible repeat (first | apply Kd.R_alloc | apply Kd.R_drewN | apply Kd.R_drew)); exact Kd.R_mono HO_301003.out (fun _ hk => ⟨hk.2, hk.1⟩)), (by (with_reducible repeat (first | apply Kd.R_alloc | apply Kd.R_drewN | apply Kd.R_drew)); exact Kd.R_mono HO_314003.out (fun _ hk => ⟨hk.2, hk.1⟩)), (by (with_reducible repeat (first | apply bN | apply bD | apply bA)); exact BK286.out), (by (with_reducible repeat (first | apply bN | apply bD | apply bA)); exact BK300.out), (by (with_reducible repeat (first | apply bN | apply bD | apply bA)); exact BK313.out), (by (with_reducible repeat (first | apply bN | apply bD | apply bA)); exact BK337.out), GW337.out, GE337.out, NB286_337.out, NB337_286.out, NB300_337.out, NB337_300.out, NB313_337.out, NB337_313.out, (by repeat (first | (with_reducible first | exact HB.out | apply eA | apply eN | apply eD | refine eS ?_ GE286.out | refine eS ?_ GE300.out | refine eS ?_ GE313.out | refine eS ?_ GE337.out) | exact HB.out))⟩)
               ·skip
                refine box_step ?hg (N := 12) ?hd (cs := #[.int .i64 0, .int .i64 0, .int .i64 0, .slice none 0 0]) (t := 105) ?hr ?_; (case hd => rfl); (case hg => rfl); (case hr => first | (go_simp; done) | (go_simp; rfl))
                intro gb337 hg w79 hbox hb
                have n0_ := am (Kd.R_below (by (with_reducible repeat (first | apply Kd.R_alloc | apply Kd.R_drewN | apply Kd.R_drew)); exact HO_301003.out) hb)
                have n1_ := am (Kd.R_below (by (with_reducible repeat (first | apply Kd.R_alloc | apply Kd.R_drewN | apply Kd.R_drew)); exact HO_314003.out) hb)
                have n2_ := am (Kd.R_below (by (with_reducible repeat (first | apply Kd.R_alloc | apply Kd.R_drewN | apply Kd.R_drew)); exact HO327.out) hb)
                have n3_ := am (blk_below (by (with_reducible repeat (first | apply bN | apply bD | apply bA)); exact BK286.out) hb)
                have n4_ := am (blk_below (by (with_reducible repeat (first | apply bN | apply bD | apply bA)); exact BK300.out) hb)
                have n5_ := am (blk_below (by (with_reducible repeat (first | apply bN | apply bD | apply bA)); exact BK313.out) hb)
                have n6_ := am (below_step (by repeat (first | (with_reducible first | exact HB.out | apply eA | apply eN | apply eD | refine eS ?_ GE286.out | refine eS ?_ GE300.out | refine eS ?_ GE313.out) | exact HB.out)) hb)
                have n7_ := am (hbox)
                have n8_ := am ((by rw [hg]; exact (below_size (by repeat (first | (with_reducible first | exact HB.out | apply eA | apply eN | apply eD | refine eS ?_ GE286.out | refine eS ?_ GE300.out | refine eS ?_ GE313.out) | exact HB.out))) : w.heap.size ≤ gb337))
                have n9_ := am ((by rw [hg]; exact (below_size (by repeat (first | (with_reducible first | exact HB.out | apply eA | apply eN | apply eD | refine eS ?_ GE286.out | refine eS ?_ GE300.out | refine eS ?_ GE313.out) | exact HB.out))) : w.heap.size ≤ gb337))
                have n10_ := am ((by rw [hg]; exact Nat.ne_of_lt (blk_lt (g := gb286) (o := .cells #[.int .i64 a1_0, .int .i64 a1_1, .int .i64 a1_2] 94 (0, 0)) (by (with_reducible repeat (first | apply bN | apply bD | apply bA)); exact BK286.out)) : gb286 ≠ gb337))
                have n11_ := am ((by rw [hg]; exact Nat.ne_of_gt (blk_lt (g := gb286) (o := .cells #[.int .i64 a1_0, .int .i64 a1_1, .int .i64 a1_2] 94 (0, 0)) (by (with_reducible repeat (first | apply bN | apply bD | apply bA)); exact BK286.out)) : gb337 ≠ gb286))
                have n12_ := am ((by rw [hg]; exact Nat.ne_of_lt (blk_lt (g := gb300) (o := .cells #[.int .i64 t294, .int .i64 t295, .int .i64 t296, .slice Ao30 t297.length co30] 105 (0, 0)) (by (with_reducible repeat (first | apply bN | apply bD | apply bA)); exact BK300.out)) : gb300 ≠ gb337))
                have n13_ := am ((by rw [hg]; exact Nat.ne_of_gt (blk_lt (g := gb300) (o := .cells #[.int .i64 t294, .int .i64 t295, .int .i64 t296, .slice Ao30 t297.length co30] 105 (0, 0)) (by (with_reducible repeat (first | apply bN | apply bD | apply bA)); exact BK300.out)) : gb337 ≠ gb300))
                have n14_ := am ((by rw [hg]; exact Nat.ne_of_lt (blk_lt (g := gb313) (o := .cells #[.int .i64 t307, .int .i64 t308, .int .i64 t309, .slice Ao42 t310.length co42] 105 (0, 0)) (by (with_reducible repeat (first | apply bN | apply bD | apply bA)); exact BK313.out)) : gb313 ≠ gb337))
                have n15_ := am ((by rw [hg]; exact Nat.ne_of_gt (blk_lt (g := gb313) (o := .cells #[.int .i64 t307, .int .i64 t308, .int .i64 t309, .slice Ao42 t310.length co42] 105 (0, 0)) (by (with_reducible repeat (first | apply bN | apply bD | apply bA)); exact BK313.out)) : gb337 ≠ gb313))
                clear HO_301003
                clear HO_314003
                clear HO327
                clear BK286
                clear BK300
                clear BK313
                clear HB
                have HO_301003 := n0_
                have HO_314003 := n1_
                have HO327 := n2_
                have BK286 := n3_
                have BK300 := n4_
                have BK313 := n5_
                have HB := n6_
                have BK337 := n7_
                have GW337 := n8_
                have GE337 := n9_
                have NB286_337 := n10_
                have NB337_286 := n11_
                have NB300_337 := n12_
                have NB337_300 := n13_
                have NB313_337 := n14_
                have NB337_313 := n15_
                clear n0_ n1_ n2_ n3_ n4_ n5_ n6_ n7_ n8_ n9_ n10_ n11_ n12_ n13_ n14_ n15_
                clear hb hbox hg
                obtain ⟨Ao80, co80, eo80⟩ := Kd.R_slice HO327.out
                (first | subst eo80 | (injection eo80 with f1_ f2_ f3_; have f4_ := f1_.symm; have f5_ := f3_.symm; clear f1_ f2_ f3_; subst f4_; subst f5_))
                refine hK.out _ _ ⟨(blk_cell BK286.out 0).trans rfl, (blk_cell BK286.out 1).trans rfl, (blk_cell BK286.out 2).trans rfl⟩ (fun hHeld => ?_)
                clear hK K
                refine norm_ (a' := ?_) ?_ ?_
                rotate_left
                ·show Act.put _ (some 12) _ = _
                 simp only [Act.put, List.setIfInBounds_toArray, List.set_cons_zero, List.set_cons_succ, i64_w, i32_w]
                 rfl
                refine one_ (i := 4) (N := some 64) #[true, true, true, true, true, true, false] rfl rfl (by kernel_rfl) (by decide) (fun K hK => ?_)
                refine goes_ Try.func75 (by kernel_rfl) rfl #[.slice Ao80 t325.length co80, .agg #[.int .i64 t328, .int .i64 t329, .int .i64 t330]] (by rfl) rfl rfl (by (try simp only [List.map_toArray, List.map_cons, List.map_nil]); first | done | rfl | (simp only [List.length_drop, List.length_take]; rfl)) ?_
                with_reducible refine (impl_FollowRequest.calls kj17 _ _ t325 t328 t329 t330 t331 t332 t333 t334 _ ?side1 ?side2 A64.out).mono ?_
                (case side1 => repeat (first | exact (Kd.R_reads' HO327.out).2.2 | (with_reducible refine Kd.C_alloc ?_ _) | (with_reducible refine Kd.C_drewN ?_ _) | (with_reducible refine Kd.C_drew ?_)))
                (case side2 => exact (Kd.R_reads' HO327.out).2.1)
                rintro e w81 ⟨v335, rfl, ho0, hb⟩
                refine ⟨_, rfl, ?_⟩
                have n0_ := am (Kd.R_elder' (by (with_reducible repeat (first | apply Kd.R_alloc | apply Kd.R_drewN | apply Kd.R_drew)); exact HO_301003.out) (Kd.R_base ho0) hb)
                have n1_ := am (Kd.R_elder' (by (with_reducible repeat (first | apply Kd.R_alloc | apply Kd.R_drewN | apply Kd.R_drew)); exact HO_314003.out) (Kd.R_base ho0) hb)
                have n2_ := am (Kd.R_below (by (with_reducible repeat (first | apply Kd.R_alloc | apply Kd.R_drewN | apply Kd.R_drew)); exact HO327.out) hb)
                have n3_ := am (Kd.R_lower (Kd.R_new' (Kd.R_new' ho0 (Kd.R_lt (by (with_reducible repeat (first | apply Kd.R_alloc | apply Kd.R_drewN | apply Kd.R_drew)); exact HO_301003.out))) (Kd.R_lt (by (with_reducible repeat (first | apply Kd.R_alloc | apply Kd.R_drewN | apply Kd.R_drew)); exact HO_314003.out))) (below_size (by repeat (first | (with_reducible first | exact HB.out | apply eA | apply eN | apply eD | refine eS ?_ GE286.out | refine eS ?_ GE300.out | refine eS ?_ GE313.out | refine eS ?_ GE337.out) | exact HB.out))))
                have n4_ := am (blk_below (by (with_reducible repeat (first | apply bN | apply bD | apply bA)); exact BK286.out) hb)
                have n5_ := am (blk_below (by (with_reducible repeat (first | apply bN | apply bD | apply bA)); exact BK300.out) hb)
                have n6_ := am (blk_below (by (with_reducible repeat (first | apply bN | apply bD | apply bA)); exact BK313.out) hb)
                have n7_ := am (blk_below (by (with_reducible repeat (first | apply bN | apply bD | apply bA)); exact BK337.out) hb)
                have n8_ := am (below_step (by repeat (first | (with_reducible first | exact HB.out | apply eA | apply eN | apply eD | refine eS ?_ GE286.out | refine eS ?_ GE300.out | refine eS ?_ GE313.out | refine eS ?_ GE337.out) | exact HB.out)) hb)
                clear HO_301003
                clear HO_314003
                clear HO327
                clear BK286
                clear BK300
                clear BK313
                clear BK337
                clear HB
                have HO_301003 := n0_
                have HO_314003 := n1_
                have HO327 := n2_
                have HO336 := n3_
                have BK286 := n4_
                have BK300 := n5_
                have BK313 := n6_
                have BK337 := n7_
                have HB := n8_
                clear n0_ n1_ n2_ n3_ n4_ n5_ n6_ n7_ n8_
                (try clear hb)
                (try clear hb2)
                (try clear hk)
                (try clear hi)
                (try clear ho0)
                refine hK.out _ _ ⟨(blk_cell BK286.out 0).trans rfl, (blk_cell BK286.out 1).trans rfl, (blk_cell BK286.out 2).trans rfl⟩ (fun hHeld => ?_)
                clear hK K
                refine norm_ (a' := ?_) ?_ ?_
                rotate_left
                ·show Act.put _ (some 64) _ = _
                 simp only [Act.put, List.setIfInBounds_toArray, List.set_cons_zero, List.set_cons_succ, i64_w, i32_w]
                 rfl
                exact norm_ (by simp only [putAll, Act.put, List.setIfInBounds_toArray, List.set_cons_zero, List.set_cons_succ]) (hCont (.slice Ao80 t325.length co80, v335, gb337) _ ⟨hHeld, (by (with_reducible repeat (first | apply Kd.R_alloc | apply Kd.R_drewN | apply Kd.R_drew)); exact HO327.out), (by (with_reducible repeat (first | apply Kd.R_alloc | apply Kd.R_drewN | apply Kd.R_drew)); exact Kd.R_mono HO336.out (fun _ hk => ⟨hk.1.2, hk.2⟩)), (by (with_reducible repeat (first | apply Kd.R_alloc | apply Kd.R_drewN | apply Kd.R_drew)); exact Kd.R_mono HO_301003.out (fun _ hk => ⟨hk.2, hk.1⟩)), (by (with_reducible repeat (first | apply Kd.R_alloc | apply Kd.R_drewN | apply Kd.R_drew)); exact Kd.R_mono HO_314003.out (fun _ hk => ⟨hk.2, hk.1⟩)), (by (with_reducible repeat (first | apply bN | apply bD | apply bA)); exact BK286.out), (by (with_reducible repeat (first | apply bN | apply bD | apply bA)); exact BK300.out), (by (with_reducible repeat (first | apply bN | apply bD | apply bA)); exact BK313.out), (by (with_reducible repeat (first | apply bN | apply bD | apply bA)); exact BK337.out), GW337.out, GE337.out, NB286_337.out, NB337_286.out, NB300_337.out, NB337_300.out, NB313_337.out, NB337_313.out, (by repeat (first | (with_reducible first | exact HB.out | apply eA | apply eN | apply eD | refine eS ?_ GE286.out | refine eS ?_ GE300.out | refine eS ?_ GE313.out | refine eS ?_ GE337.out) | exact HB.out))⟩)
              ·skip
               refine box_step ?hg (N := 12) ?hd (cs := #[.int .i64 0, .int .i64 0, .int .i64 0, .slice none 0 0]) (t := 105) ?hr ?_; (case hd => rfl); (case hg => rfl); (case hr => first | (go_simp; done) | (go_simp; rfl))
               intro gb337 hg w78 hbox hb
               have n0_ := am (Kd.R_below (by (with_reducible repeat (first | apply Kd.R_alloc | apply Kd.R_drewN | apply Kd.R_drew)); exact HO_301003.out) hb)
               have n1_ := am (Kd.R_below (by (with_reducible repeat (first | apply Kd.R_alloc | apply Kd.R_drewN | apply Kd.R_drew)); exact HO_314003.out) hb)
               have n2_ := am (Kd.R_below (by (with_reducible repeat (first | apply Kd.R_alloc | apply Kd.R_drewN | apply Kd.R_drew)); exact HO327.out) hb)
               have n3_ := am (blk_below (by (with_reducible repeat (first | apply bN | apply bD | apply bA)); exact BK286.out) hb)
               have n4_ := am (blk_below (by (with_reducible repeat (first | apply bN | apply bD | apply bA)); exact BK300.out) hb)
               have n5_ := am (blk_below (by (with_reducible repeat (first | apply bN | apply bD | apply bA)); exact BK313.out) hb)
               have n6_ := am (below_step (by repeat (first | (with_reducible first | exact HB.out | apply eA | apply eN | apply eD | refine eS ?_ GE286.out | refine eS ?_ GE300.out | refine eS ?_ GE313.out) | exact HB.out)) hb)
               have n7_ := am (hbox)
               have n8_ := am ((by rw [hg]; exact (below_size (by repeat (first | (with_reducible first | exact HB.out | apply eA | apply eN | apply eD | refine eS ?_ GE286.out | refine eS ?_ GE300.out | refine eS ?_ GE313.out) | exact HB.out))) : w.heap.size ≤ gb337))
               have n9_ := am ((by rw [hg]; exact (below_size (by repeat (first | (with_reducible first | exact HB.out | apply eA | apply eN | apply eD | refine eS ?_ GE286.out | refine eS ?_ GE300.out | refine eS ?_ GE313.out) | exact HB.out))) : w.heap.size ≤ gb337))
               have n10_ := am ((by rw [hg]; exact Nat.ne_of_lt (blk_lt (g := gb286) (o := .cells #[.int .i64 a1_0, .int .i64 a1_1, .int .i64 a1_2] 94 (0, 0)) (by (with_reducible repeat (first | apply bN | apply bD | apply bA)); exact BK286.out)) : gb286 ≠ gb337))
               have n11_ := am ((by rw [hg]; exact Nat.ne_of_gt (blk_lt (g := gb286) (o := .cells #[.int .i64 a1_0, .int .i64 a1_1, .int .i64 a1_2] 94 (0, 0)) (by (with_reducible repeat (first | apply bN | apply bD | apply bA)); exact BK286.out)) : gb337 ≠ gb286))
               have n12_ := am ((by rw [hg]; exact Nat.ne_of_lt (blk_lt (g := gb300) (o := .cells #[.int .i64 t294, .int .i64 t295, .int .i64 t296, .slice Ao30 t297.length co30] 105 (0, 0)) (by (with_reducible repeat (first | apply bN | apply bD | apply bA)); exact BK300.out)) : gb300 ≠ gb337))
               have n13_ := am ((by rw [hg]; exact Nat.ne_of_gt (blk_lt (g := gb300) (o := .cells #[.int .i64 t294, .int .i64 t295, .int .i64 t296, .slice Ao30 t297.length co30] 105 (0, 0)) (by (with_reducible repeat (first | apply bN | apply bD | apply bA)); exact BK300.out)) : gb337 ≠ gb300))
               have n14_ := am ((by rw [hg]; exact Nat.ne_of_lt (blk_lt (g := gb313) (o := .cells #[.int .i64 t307, .int .i64 t308, .int .i64 t309, .slice Ao42 t310.length co42] 105 (0, 0)) (by (with_reducible repeat (first | apply bN | apply bD | apply bA)); exact BK313.out)) : gb313 ≠ gb337))
               have n15_ := am ((by rw [hg]; exact Nat.ne_of_gt (blk_lt (g := gb313) (o := .cells #[.int .i64 t307, .int .i64 t308, .int .i64 t309, .slice Ao42 t310.length co42] 105 (0, 0)) (by (with_reducible repeat (first | apply bN | apply bD | apply bA)); exact BK313.out)) : gb337 ≠ gb313))
               clear HO_301003
               clear HO_314003
               clear HO327
               clear BK286
               clear BK300
               clear BK313
               clear HB
               have HO_301003 := n0_
               have HO_314003 := n1_
               have HO327 := n2_
               have BK286 := n3_
               have BK300 := n4_
               have BK313 := n5_
               have HB := n6_
               have BK337 := n7_
               have GW337 := n8_
               have GE337 := n9_
               have NB286_337 := n10_
               have NB337_286 := n11_
               have NB300_337 := n12_
               have NB337_300 := n13_
               have NB313_337 := n14_
               have NB337_313 := n15_
               clear n0_ n1_ n2_ n3_ n4_ n5_ n6_ n7_ n8_ n9_ n10_ n11_ n12_ n13_ n14_ n15_
               clear hb hbox hg
               refine hK.out _ _ ⟨(blk_cell BK286.out 0).trans rfl, (blk_cell BK286.out 1).trans rfl, (blk_cell BK286.out 2).trans rfl⟩ (fun hHeld => ?_)
               clear hK K
               refine norm_ (a' := ?_) ?_ ?_
               rotate_left
               ·show Act.put _ (some 12) _ = _
                simp only [Act.put, List.setIfInBounds_toArray, List.set_cons_zero, List.set_cons_succ, i64_w, i32_w]
                rfl
               refine one_ (i := 3) (N := some 63) #[true, true, true, true, false, true, false] rfl rfl (by kernel_rfl) (by decide) (fun K hK => ?_)
               refine goes_ Try.func67 (by kernel_rfl) rfl #[.agg #[.int .i64 a1_0, .int .i64 a1_1, .int .i64 a1_2]] (by rfl) rfl rfl (by (try simp only [List.map_toArray, List.map_cons, List.map_nil]); first | done | rfl | (simp only [List.length_drop, List.length_take]; rfl)) ?_
               with_reducible refine (laws_toRequest.calls a1_0 a1_1 a1_2 t328 t329 t330 _ A63.out).mono ?_
               rintro e w79 ⟨rfl, hb⟩
               refine ⟨_, rfl, ?_⟩
               have n0_ := am (Kd.R_below (by (with_reducible repeat (first | apply Kd.R_alloc | apply Kd.R_drewN | apply Kd.R_drew)); exact HO_301003.out) hb)
               have n1_ := am (Kd.R_below (by (with_reducible repeat (first | apply Kd.R_alloc | apply Kd.R_drewN | apply Kd.R_drew)); exact HO_314003.out) hb)
               have n2_ := am (Kd.R_below (by (with_reducible repeat (first | apply Kd.R_alloc | apply Kd.R_drewN | apply Kd.R_drew)); exact HO327.out) hb)
               have n3_ := am (blk_below (by (with_reducible repeat (first | apply bN | apply bD | apply bA)); exact BK286.out) hb)
               have n4_ := am (blk_below (by (with_reducible repeat (first | apply bN | apply bD | apply bA)); exact BK300.out) hb)
               have n5_ := am (blk_below (by (with_reducible repeat (first | apply bN | apply bD | apply bA)); exact BK313.out) hb)
               have n6_ := am (blk_below (by (with_reducible repeat (first | apply bN | apply bD | apply bA)); exact BK337.out) hb)
               have n7_ := am (below_step (by repeat (first | (with_reducible first | exact HB.out | apply eA | apply eN | apply eD | refine eS ?_ GE286.out | refine eS ?_ GE300.out | refine eS ?_ GE313.out | refine eS ?_ GE337.out) | exact HB.out)) hb)
               clear HO_301003
               clear HO_314003
               clear HO327
               clear BK286
               clear BK300
               clear BK313
               clear BK337
               clear HB
               have HO_301003 := n0_
               have HO_314003 := n1_
               have HO327 := n2_
               have BK286 := n3_
               have BK300 := n4_
               have BK313 := n5_
               have BK337 := n6_
               have HB := n7_
               clear n0_ n1_ n2_ n3_ n4_ n5_ n6_ n7_
               (try clear hb)
               (try clear hb2)
               (try clear hk)
               (try clear hi)
               obtain ⟨Ao80, co80, eo80⟩ := Kd.R_slice HO327.out
               (first | subst eo80 | (injection eo80 with f1_ f2_ f3_; have f4_ := f1_.symm; have f5_ := f3_.symm; clear f1_ f2_ f3_; subst f4_; subst f5_))
               refine hK.out _ _ ⟨(blk_cell BK286.out 0).trans rfl, (blk_cell BK286.out 1).trans rfl, (blk_cell BK286.out 2).trans rfl⟩ (fun hHeld => ?_)
               clear hK K
               refine norm_ (a' := ?_) ?_ ?_
               rotate_left
               ·show Act.put _ (some 63) _ = _
                simp only [Act.put, List.setIfInBounds_toArray, List.set_cons_zero, List.set_cons_succ, i64_w, i32_w]
                rfl
               refine one_ (i := 4) (N := some 64) #[true, true, true, true, true, true, false] rfl rfl (by kernel_rfl) (by decide) (fun K hK => ?_)
               refine goes_ Try.func75 (by kernel_rfl) rfl #[.slice Ao80 t325.length co80, .agg #[.int .i64 t328, .int .i64 t329, .int .i64 t330]] (by rfl) rfl rfl (by (try simp only [List.map_toArray, List.map_cons, List.map_nil]); first | done | rfl | (simp only [List.length_drop, List.length_take]; rfl)) ?_
               with_reducible refine (impl_FollowRequest.calls kj17 _ _ t325 t328 t329 t330 t331 t332 t333 t334 _ ?side1 ?side2 A64.out).mono ?_
               (case side1 => repeat (first | exact (Kd.R_reads' HO327.out).2.2 | (with_reducible refine Kd.C_alloc ?_ _) | (with_reducible refine Kd.C_drewN ?_ _) | (with_reducible refine Kd.C_drew ?_)))
               (case side2 => exact (Kd.R_reads' HO327.out).2.1)
               rintro e w81 ⟨v335, rfl, ho0, hb⟩
               refine ⟨_, rfl, ?_⟩
               have n0_ := am (Kd.R_elder' (by (with_reducible repeat (first | apply Kd.R_alloc | apply Kd.R_drewN | apply Kd.R_drew)); exact HO_301003.out) (Kd.R_base ho0) hb)
               have n1_ := am (Kd.R_elder' (by (with_reducible repeat (first | apply Kd.R_alloc | apply Kd.R_drewN | apply Kd.R_drew)); exact HO_314003.out) (Kd.R_base ho0) hb)
               have n2_ := am (Kd.R_below (by (with_reducible repeat (first | apply Kd.R_alloc | apply Kd.R_drewN | apply Kd.R_drew)); exact HO327.out) hb)
               have n3_ := am (Kd.R_lower (Kd.R_new' (Kd.R_new' ho0 (Kd.R_lt (by (with_reducible repeat (first | apply Kd.R_alloc | apply Kd.R_drewN | apply Kd.R_drew)); exact HO_301003.out))) (Kd.R_lt (by (with_reducible repeat (first | apply Kd.R_alloc | apply Kd.R_drewN | apply Kd.R_drew)); exact HO_314003.out))) (below_size (by repeat (first | (with_reducible first | exact HB.out | apply eA | apply eN | apply eD | refine eS ?_ GE286.out | refine eS ?_ GE300.out | refine eS ?_ GE313.out | refine eS ?_ GE337.out) | exact HB.out))))
               have n4_ := am (blk_below (by (with_reducible repeat (first | apply bN | apply bD | apply bA)); exact BK286.out) hb)
               have n5_ := am (blk_below (by (with_reducible repeat (first | apply bN | apply bD | apply bA)); exact BK300.out) hb)
               have n6_ := am (blk_below (by (with_reducible repeat (first | apply bN | apply bD | apply bA)); exact BK313.out) hb)
               have n7_ := am (blk_below (by (with_reducible repeat (first | apply bN | apply bD | apply bA)); exact BK337.out) hb)
               have n8_ := am (below_step (by repeat (first | (with_reducible first | exact HB.out | apply eA | apply eN | apply eD | refine eS ?_ GE286.out | refine eS ?_ GE300.out | refine eS ?_ GE313.out | refine eS ?_ GE337.out) | exact HB.out)) hb)
               clear HO_301003
               clear HO_314003
               clear HO327
               clear BK286
               clear BK300
               clear BK313
               clear BK337
               clear HB
               have HO_301003 := n0_
               have HO_314003 := n1_
               have HO327 := n2_
               have HO336 := n3_
               have BK286 := n4_
               have BK300 := n5_
               have BK313 := n6_
               have BK337 := n7_
               have HB := n8_
               clear n0_ n1_ n2_ n3_ n4_ n5_ n6_ n7_ n8_
               (try clear hb)
               (try clear hb2)
               (try clear hk)
               (try clear hi)
               (try clear ho0)
               refine hK.out _ _ ⟨(blk_cell BK286.out 0).trans rfl, (blk_cell BK286.out 1).trans rfl, (blk_cell BK286.out 2).trans rfl⟩ (fun hHeld => ?_)
               clear hK K
               refine norm_ (a' := ?_) ?_ ?_
               rotate_left
               ·show Act.put _ (some 64) _ = _
                simp only [Act.put, List.setIfInBounds_toArray, List.set_cons_zero, List.set_cons_succ, i64_w, i32_w]
                rfl
               exact norm_ (by simp only [putAll, Act.put, List.setIfInBounds_toArray, List.set_cons_zero, List.set_cons_succ]) (hCont (.slice Ao80 t325.length co80, v335, gb337) _ ⟨hHeld, (by (with_reducible repeat (first | apply Kd.R_alloc | apply Kd.R_drewN | apply Kd.R_drew)); exact HO327.out), (by (with_reducible repeat (first | apply Kd.R_alloc | apply Kd.R_drewN | apply Kd.R_drew)); exact Kd.R_mono HO336.out (fun _ hk => ⟨hk.1.2, hk.2⟩)), (by (with_reducible repeat (first | apply Kd.R_alloc | apply Kd.R_drewN | apply Kd.R_drew)); exact Kd.R_mono HO_301003.out (fun _ hk => ⟨hk.2, hk.1⟩)), (by (with_reducible repeat (first | apply Kd.R_alloc | apply Kd.R_drewN | apply Kd.R_drew)); exact Kd.R_mono HO_314003.out (fun _ hk => ⟨hk.2, hk.1⟩)), (by (with_reducible repeat (first | apply bN | apply bD | apply bA)); exact BK286.out), (by (with_reducible repeat (first | apply bN | apply bD | apply bA)); exact BK300.out), (by (with_reducible repeat (first | apply bN | apply bD | apply bA)); exact BK313.out), (by (with_reducible repeat (first | apply bN | apply bD | apply bA)); exact BK337.out), GW337.out, GE337.out, NB286_337.out, NB337_286.out, NB300_337.out, NB337_300.out, NB313_337.out, NB337_313.out, (by repeat (first | (with_reducible first | exact HB.out | apply eA | apply eN | apply eD | refine eS ?_ GE286.out | refine eS ?_ GE300.out | refine eS ?_ GE313.out | refine eS ?_ GE337.out) | exact HB.out))⟩)
             ·skip
              refine box_step ?hg (N := 12) ?hd (cs := #[.int .i64 0, .int .i64 0, .int .i64 0, .slice none 0 0]) (t := 105) ?hr ?_; (case hd => rfl); (case hg => rfl); (case hr => first | (go_simp; done) | (go_simp; rfl))
              intro gb337 hg w77 hbox hb
              have n0_ := am (Kd.R_below (by (with_reducible repeat (first | apply Kd.R_alloc | apply Kd.R_drewN | apply Kd.R_drew)); exact HO_301003.out) hb)
              have n1_ := am (Kd.R_below (by (with_reducible repeat (first | apply Kd.R_alloc | apply Kd.R_drewN | apply Kd.R_drew)); exact HO_314003.out) hb)
              have n2_ := am (blk_below (by (with_reducible repeat (first | apply bN | apply bD | apply bA)); exact BK286.out) hb)
              have n3_ := am (blk_below (by (with_reducible repeat (first | apply bN | apply bD | apply bA)); exact BK300.out) hb)
              have n4_ := am (blk_below (by (with_reducible repeat (first | apply bN | apply bD | apply bA)); exact BK313.out) hb)
              have n5_ := am (below_step (by repeat (first | (with_reducible first | exact HB.out | apply eA | apply eN | apply eD | refine eS ?_ GE286.out | refine eS ?_ GE300.out | refine eS ?_ GE313.out) | exact HB.out)) hb)
              have n6_ := am (hbox)
              have n7_ := am ((by rw [hg]; exact (below_size (by repeat (first | (with_reducible first | exact HB.out | apply eA | apply eN | apply eD | refine eS ?_ GE286.out | refine eS ?_ GE300.out | refine eS ?_ GE313.out) | exact HB.out))) : w.heap.size ≤ gb337))
              have n8_ := am ((by rw [hg]; exact (below_size (by repeat (first | (with_reducible first | exact HB.out | apply eA | apply eN | apply eD | refine eS ?_ GE286.out | refine eS ?_ GE300.out | refine eS ?_ GE313.out) | exact HB.out))) : w.heap.size ≤ gb337))
              have n9_ := am ((by rw [hg]; exact Nat.ne_of_lt (blk_lt (g := gb286) (o := .cells #[.int .i64 a1_0, .int .i64 a1_1, .int .i64 a1_2] 94 (0, 0)) (by (with_reducible repeat (first | apply bN | apply bD | apply bA)); exact BK286.out)) : gb286 ≠ gb337))
              have n10_ := am ((by rw [hg]; exact Nat.ne_of_gt (blk_lt (g := gb286) (o := .cells #[.int .i64 a1_0, .int .i64 a1_1, .int .i64 a1_2] 94 (0, 0)) (by (with_reducible repeat (first | apply bN | apply bD | apply bA)); exact BK286.out)) : gb337 ≠ gb286))
              have n11_ := am ((by rw [hg]; exact Nat.ne_of_lt (blk_lt (g := gb300) (o := .cells #[.int .i64 t294, .int .i64 t295, .int .i64 t296, .slice Ao30 t297.length co30] 105 (0, 0)) (by (with_reducible repeat (first | apply bN | apply bD | apply bA)); exact BK300.out)) : gb300 ≠ gb337))
              have n12_ := am ((by rw [hg]; exact Nat.ne_of_gt (blk_lt (g := gb300) (o := .cells #[.int .i64 t294, .int .i64 t295, .int .i64 t296, .slice Ao30 t297.length co30] 105 (0, 0)) (by (with_reducible repeat (first | apply bN | apply bD | apply bA)); exact BK300.out)) : gb337 ≠ gb300))
              have n13_ := am ((by rw [hg]; exact Nat.ne_of_lt (blk_lt (g := gb313) (o := .cells #[.int .i64 t307, .int .i64 t308, .int .i64 t309, .slice Ao42 t310.length co42] 105 (0, 0)) (by (with_reducible repeat (first | apply bN | apply bD | apply bA)); exact BK313.out)) : gb313 ≠ gb337))
              have n14_ := am ((by rw [hg]; exact Nat.ne_of_gt (blk_lt (g := gb313) (o := .cells #[.int .i64 t307, .int .i64 t308, .int .i64 t309, .slice Ao42 t310.length co42] 105 (0, 0)) (by (with_reducible repeat (first | apply bN | apply bD | apply bA)); exact BK313.out)) : gb337 ≠ gb313))
              clear HO_301003
              clear HO_314003
              clear BK286
              clear BK300
              clear BK313
              clear HB
              have HO_301003 := n0_
              have HO_314003 := n1_
              have BK286 := n2_
              have BK300 := n3_
              have BK313 := n4_
              have HB := n5_
              have BK337 := n6_
              have GW337 := n7_
              have GE337 := n8_
              have NB286_337 := n9_
              have NB337_286 := n10_
              have NB300_337 := n11_
              have NB337_300 := n12_
              have NB313_337 := n13_
              have NB337_313 := n14_
              clear n0_ n1_ n2_ n3_ n4_ n5_ n6_ n7_ n8_ n9_ n10_ n11_ n12_ n13_ n14_
              clear hb hbox hg
              refine hK.out _ _ ⟨(blk_cell BK286.out 0).trans rfl, (blk_cell BK286.out 1).trans rfl, (blk_cell BK286.out 2).trans rfl⟩ (fun hHeld => ?_)
              clear hK K
              refine norm_ (a' := ?_) ?_ ?_
              rotate_left
              ·show Act.put _ (some 12) _ = _
               simp only [Act.put, List.setIfInBounds_toArray, List.set_cons_zero, List.set_cons_succ, i64_w, i32_w]
               rfl
              refine one_ (i := 1) (N := some 61) #[true, true, true, false, false, true, false] rfl rfl (by kernel_rfl) (by decide) (fun K hK => ?_)
              refine goes_ Try.func17 (by kernel_rfl) rfl #[.slice A0 l0.length c0] (by rfl) rfl rfl (by (try simp only [List.map_toArray, List.map_cons, List.map_nil]); first | done | rfl | (simp only [List.length_drop, List.length_take]; rfl)) ?_
              with_reducible refine (laws_toRuleS.calls kj17 _ _ l0 t325 _ ?side1 ?side2 A62.out).mono ?_
              (case side1 => repeat (first | exact (Kd.C_below HR0.out HB.out) | (with_reducible refine Kd.C_alloc ?_ _) | (with_reducible refine Kd.C_drewN ?_ _) | (with_reducible refine Kd.C_drew ?_)))
              (case side2 => exact HC0.out)
              rintro e w78 ⟨v326, rfl, ho0, hb⟩
              refine ⟨_, rfl, ?_⟩
              have n0_ := am (Kd.R_below (by (with_reducible repeat (first | apply Kd.R_alloc | apply Kd.R_drewN | apply Kd.R_drew)); exact HO_301003.out) hb)
              have n1_ := am (Kd.R_below (by (with_reducible repeat (first | apply Kd.R_alloc | apply Kd.R_drewN | apply Kd.R_drew)); exact HO_314003.out) hb)
              have n2_ := am (Kd.R_lower ho0 (below_size (by repeat (first | (with_reducible first | exact HB.out | apply eA | apply eN | apply eD | refine eS ?_ GE286.out | refine eS ?_ GE300.out | refine eS ?_ GE313.out | refine eS ?_ GE337.out) | exact HB.out))))
              have n3_ := am (blk_below (by (with_reducible repeat (first | apply bN | apply bD | apply bA)); exact BK286.out) hb)
              have n4_ := am (blk_below (by (with_reducible repeat (first | apply bN | apply bD | apply bA)); exact BK300.out) hb)
              have n5_ := am (blk_below (by (with_reducible repeat (first | apply bN | apply bD | apply bA)); exact BK313.out) hb)
              have n6_ := am (blk_below (by (with_reducible repeat (first | apply bN | apply bD | apply bA)); exact BK337.out) hb)
              have n7_ := am (below_step (by repeat (first | (with_reducible first | exact HB.out | apply eA | apply eN | apply eD | refine eS ?_ GE286.out | refine eS ?_ GE300.out | refine eS ?_ GE313.out | refine eS ?_ GE337.out) | exact HB.out)) hb)
              clear HO_301003
              clear HO_314003
              clear BK286
              clear BK300
              clear BK313
              clear BK337
              clear HB
              have HO_301003 := n0_
              have HO_314003 := n1_
              have HO327 := n2_
              have BK286 := n3_
              have BK300 := n4_
              have BK313 := n5_
              have BK337 := n6_
              have HB := n7_
              clear n0_ n1_ n2_ n3_ n4_ n5_ n6_ n7_
              (try clear hb)
              (try clear hb2)
              (try clear hk)
              (try clear hi)
              (try clear ho0)
              refine hK.out _ _ ⟨(blk_cell BK286.out 0).trans rfl, (blk_cell BK286.out 1).trans rfl, (blk_cell BK286.out 2).trans rfl⟩ (fun hHeld => ?_)
              clear hK K
              refine norm_ (a' := ?_) ?_ ?_
              rotate_left
              ·show Act.put _ (some 61) _ = _
               simp only [Act.put, List.setIfInBounds_toArray, List.set_cons_zero, List.set_cons_succ, i64_w, i32_w]
               rfl
              refine one_ (i := 3) (N := some 63) #[true, true, true, true, false, true, false] rfl rfl (by kernel_rfl) (by decide) (fun K hK => ?_)
              refine goes_ Try.func67 (by kernel_rfl) rfl #[.agg #[.int .i64 a1_0, .int .i64 a1_1, .int .i64 a1_2]] (by rfl) rfl rfl (by (try simp only [List.map_toArray, List.map_cons, List.map_nil]); first | done | rfl | (simp only [List.length_drop, List.length_take]; rfl)) ?_
              with_reducible refine (laws_toRequest.calls a1_0 a1_1 a1_2 t328 t329 t330 _ A63.out).mono ?_
              rintro e w79 ⟨rfl, hb⟩
              refine ⟨_, rfl, ?_⟩
              have n0_ := am (Kd.R_below (by (with_reducible repeat (first | apply Kd.R_alloc | apply Kd.R_drewN | apply Kd.R_drew)); exact HO_301003.out) hb)
              have n1_ := am (Kd.R_below (by (with_reducible repeat (first | apply Kd.R_alloc | apply Kd.R_drewN | apply Kd.R_drew)); exact HO_314003.out) hb)
              have n2_ := am (Kd.R_below (by (with_reducible repeat (first | apply Kd.R_alloc | apply Kd.R_drewN | apply Kd.R_drew)); exact HO327.out) hb)
              have n3_ := am (blk_below (by (with_reducible repeat (first | apply bN | apply bD | apply bA)); exact BK286.out) hb)
              have n4_ := am (blk_below (by (with_reducible repeat (first | apply bN | apply bD | apply bA)); exact BK300.out) hb)
              have n5_ := am (blk_below (by (with_reducible repeat (first | apply bN | apply bD | apply bA)); exact BK313.out) hb)
              have n6_ := am (blk_below (by (with_reducible repeat (first | apply bN | apply bD | apply bA)); exact BK337.out) hb)
              have n7_ := am (below_step (by repeat (first | (with_reducible first | exact HB.out | apply eA | apply eN | apply eD | refine eS ?_ GE286.out | refine eS ?_ GE300.out | refine eS ?_ GE313.out | refine eS ?_ GE337.out) | exact HB.out)) hb)
              clear HO_301003
              clear HO_314003
              clear HO327
              clear BK286
              clear BK300
              clear BK313
              clear BK337
              clear HB
              have HO_301003 := n0_
              have HO_314003 := n1_
              have HO327 := n2_
              have BK286 := n3_
              have BK300 := n4_
              have BK313 := n5_
              have BK337 := n6_
              have HB := n7_
              clear n0_ n1_ n2_ n3_ n4_ n5_ n6_ n7_
              (try clear hb)
              (try clear hb2)
              (try clear hk)
              (try clear hi)
              obtain ⟨Ao80, co80, eo80⟩ := Kd.R_slice HO327.out
              (first | subst eo80 | (injection eo80 with f1_ f2_ f3_; have f4_ := f1_.symm; have f5_ := f3_.symm; clear f1_ f2_ f3_; subst f4_; subst f5_))
              refine hK.out _ _ ⟨(blk_cell BK286.out 0).trans rfl, (blk_cell BK286.out 1).trans rfl, (blk_cell BK286.out 2).trans rfl⟩ (fun hHeld => ?_)
              clear hK K
              refine norm_ (a' := ?_) ?_ ?_
              rotate_left
              ·show Act.put _ (some 63) _ = _
               simp only [Act.put, List.setIfInBounds_toArray, List.set_cons_zero, List.set_cons_succ, i64_w, i32_w]
               rfl
              refine one_ (i := 4) (N := some 64) #[true, true, true, true, true, true, false] rfl rfl (by kernel_rfl) (by decide) (fun K hK => ?_)
              refine goes_ Try.func75 (by kernel_rfl) rfl #[.slice Ao80 t325.length co80, .agg #[.int .i64 t328, .int .i64 t329, .int .i64 t330]] (by rfl) rfl rfl (by (try simp only [List.map_toArray, List.map_cons, List.map_nil]); first | done | rfl | (simp only [List.length_drop, List.length_take]; rfl)) ?_
              with_reducible refine (impl_FollowRequest.calls kj17 _ _ t325 t328 t329 t330 t331 t332 t333 t334 _ ?side1 ?side2 A64.out).mono ?_
              (case side1 => repeat (first | exact (Kd.R_reads' HO327.out).2.2 | (with_reducible refine Kd.C_alloc ?_ _) | (with_reducible refine Kd.C_drewN ?_ _) | (with_reducible refine Kd.C_drew ?_)))
              (case side2 => exact (Kd.R_reads' HO327.out).2.1)
              rintro e w81 ⟨v335, rfl, ho0, hb⟩
              refine ⟨_, rfl, ?_⟩
              have n0_ := am (Kd.R_elder' (by (with_reducible repeat (first | apply Kd.R_alloc | apply Kd.R_drewN | apply Kd.R_drew)); exact HO_301003.out) (Kd.R_base ho0) hb)
              have n1_ := am (Kd.R_elder' (by (with_reducible repeat (first | apply Kd.R_alloc | apply Kd.R_drewN | apply Kd.R_drew)); exact HO_314003.out) (Kd.R_base ho0) hb)
              have n2_ := am (Kd.R_below (by (with_reducible repeat (first | apply Kd.R_alloc | apply Kd.R_drewN | apply Kd.R_drew)); exact HO327.out) hb)
              have n3_ := am (Kd.R_lower (Kd.R_new' (Kd.R_new' ho0 (Kd.R_lt (by (with_reducible repeat (first | apply Kd.R_alloc | apply Kd.R_drewN | apply Kd.R_drew)); exact HO_301003.out))) (Kd.R_lt (by (with_reducible repeat (first | apply Kd.R_alloc | apply Kd.R_drewN | apply Kd.R_drew)); exact HO_314003.out))) (below_size (by repeat (first | (with_reducible first | exact HB.out | apply eA | apply eN | apply eD | refine eS ?_ GE286.out | refine eS ?_ GE300.out | refine eS ?_ GE313.out | refine eS ?_ GE337.out) | exact HB.out))))
              have n4_ := am (blk_below (by (with_reducible repeat (first | apply bN | apply bD | apply bA)); exact BK286.out) hb)
              have n5_ := am (blk_below (by (with_reducible repeat (first | apply bN | apply bD | apply bA)); exact BK300.out) hb)
              have n6_ := am (blk_below (by (with_reducible repeat (first | apply bN | apply bD | apply bA)); exact BK313.out) hb)
              have n7_ := am (blk_below (by (with_reducible repeat (first | apply bN | apply bD | apply bA)); exact BK337.out) hb)
              have n8_ := am (below_step (by repeat (first | (with_reducible first | exact HB.out | apply eA | apply eN | apply eD | refine eS ?_ GE286.out | refine eS ?_ GE300.out | refine eS ?_ GE313.out | refine eS ?_ GE337.out) | exact HB.out)) hb)
              clear HO_301003
              clear HO_314003
              clear HO327
              clear BK286
              clear BK300
              clear BK313
              clear BK337
              clear HB
              have HO_301003 := n0_
              have HO_314003 := n1_
              have HO327 := n2_
              have HO336 := n3_
              have BK286 := n4_
              have BK300 := n5_
              have BK313 := n6_
              have BK337 := n7_
              have HB := n8_
              clear n0_ n1_ n2_ n3_ n4_ n5_ n6_ n7_ n8_
              (try clear hb)
              (try clear hb2)
              (try clear hk)
              (try clear hi)
              (try clear ho0)
              refine hK.out _ _ ⟨(blk_cell BK286.out 0).trans rfl, (blk_cell BK286.out 1).trans rfl, (blk_cell BK286.out 2).trans rfl⟩ (fun hHeld => ?_)
              clear hK K
              refine norm_ (a' := ?_) ?_ ?_
              rotate_left
              ·show Act.put _ (some 64) _ = _
               simp only [Act.put, List.setIfInBounds_toArray, List.set_cons_zero, List.set_cons_succ, i64_w, i32_w]
               rfl
              exact norm_ (by simp only [putAll, Act.put, List.setIfInBounds_toArray, List.set_cons_zero, List.set_cons_succ]) (hCont (.slice Ao80 t325.length co80, v335, gb337) _ ⟨hHeld, (by (with_reducible repeat (first | apply Kd.R_alloc | apply Kd.R_drewN | apply Kd.R_drew)); exact HO327.out), (by (with_reducible repeat (first | apply Kd.R_alloc | apply Kd.R_drewN | apply Kd.R_drew)); exact Kd.R_mono HO336.out (fun _ hk => ⟨hk.1.2, hk.2⟩)), (by (with_reducible repeat (first | apply Kd.R_alloc | apply Kd.R_drewN | apply Kd.R_drew)); exact Kd.R_mono HO_301003.out (fun _ hk => ⟨hk.2, hk.1⟩)), (by (with_reducible repeat (first | apply Kd.R_alloc | apply Kd.R_drewN | apply Kd.R_drew)); exact Kd.R_mono HO_314003.out (fun _ hk => ⟨hk.2, hk.1⟩)), (by (with_reducible repeat (first | apply bN | apply bD | apply bA)); exact BK286.out), (by (with_reducible repeat (first | apply bN | apply bD | apply bA)); exact BK300.out), (by (with_reducible repeat (first | apply bN | apply bD | apply bA)); exact BK313.out), (by (with_reducible repeat (first | apply bN | apply bD | apply bA)); exact BK337.out), GW337.out, GE337.out, NB286_337.out, NB337_286.out, NB300_337.out, NB337_300.out, NB313_337.out, NB337_313.out, (by repeat (first | (with_reducible first | exact HB.out | apply eA | apply eN | apply eD | refine eS ?_ GE286.out | refine eS ?_ GE300.out | refine eS ?_ GE313.out | refine eS ?_ GE337.out) | exact HB.out))⟩)
            rintro ⟨v326, v335, gb337⟩ w82 ⟨hS_, h0_, h1_, h2_, h3_, h4_, h5_, h6_, h7_, h8_, h9_, h10_, h11_, h12_, h13_, h14_, h15_, h16_⟩
            have n0_ : Aside0 (Kd.R k35 35 w82 w.heap.size (fun _ => True) v326 t325) := ⟨h0_⟩
            have n1_ : Aside0 (Kd.R k33 33 w82 w.heap.size (fun k_ => some k_ ≠ (.slice Ao30 t297.length co30 : Value).ownBlock ∧ some k_ ≠ (.slice Ao42 t310.length co42 : Value).ownBlock) v335 t334) := ⟨h1_⟩
            have n2_ : Aside0 (Kd.R k33 33 w82 w.heap.size (fun k_ => some k_ ≠ (v335 : Value).ownBlock ∧ some k_ ≠ (.slice Ao42 t310.length co42 : Value).ownBlock) (.slice Ao30 t297.length co30) t297) := ⟨h2_⟩
            have n3_ : Aside0 (Kd.R k33 33 w82 w.heap.size (fun k_ => some k_ ≠ (v335 : Value).ownBlock ∧ some k_ ≠ (.slice Ao30 t297.length co30 : Value).ownBlock) (.slice Ao42 t310.length co42) t323) := ⟨h3_⟩
            have n4_ : Aside0 (w82.heap[gb286]? = some (.cells #[.int .i64 a1_0, .int .i64 a1_1, .int .i64 a1_2] 94 (0, 0))) := ⟨h4_⟩
            have n5_ : Aside0 (w82.heap[gb300]? = some (.cells #[.int .i64 t294, .int .i64 t295, .int .i64 t296, .slice Ao30 t297.length co30] 105 (0, 0))) := ⟨h5_⟩
            have n6_ : Aside0 (w82.heap[gb313]? = some (.cells #[.int .i64 t307, .int .i64 t308, .int .i64 t309, .slice Ao42 t310.length co42] 105 (0, 0))) := ⟨h6_⟩
            have n7_ : Aside0 (w82.heap[gb337]? = some (.cells #[.int .i64 0, .int .i64 0, .int .i64 0, .slice none 0 0] 105 (0, 0))) := ⟨h7_⟩
            have n8_ : Aside0 (w.heap.size ≤ gb337) := ⟨h8_⟩
            have n9_ : Aside0 (w.heap.size ≤ gb337) := ⟨h9_⟩
            have n10_ : Aside0 (gb286 ≠ gb337) := ⟨h10_⟩
            have n11_ : Aside0 (gb337 ≠ gb286) := ⟨h11_⟩
            have n12_ : Aside0 (gb300 ≠ gb337) := ⟨h12_⟩
            have n13_ : Aside0 (gb337 ≠ gb300) := ⟨h13_⟩
            have n14_ : Aside0 (gb313 ≠ gb337) := ⟨h14_⟩
            have n15_ : Aside0 (gb337 ≠ gb313) := ⟨h15_⟩
            have n16_ : Aside0 (Below w.heap.size w w82) := ⟨h16_⟩
            clear HO_301003
            clear HO_314003
            clear BK286
            clear BK300
            clear BK313
            clear HB
            clear h0_ h1_ h2_ h3_ h4_ h5_ h6_ h7_ h8_ h9_ h10_ h11_ h12_ h13_ h14_ h15_ h16_
            have HO327 := n0_
            have HO336 := n1_
            have HO_301003 := n2_
            have HO_314003 := n3_
            have BK286 := n4_
            have BK300 := n5_
            have BK313 := n6_
            have BK337 := n7_
            have GW337 := n8_
            have GE337 := n9_
            have NB286_337 := n10_
            have NB337_286 := n11_
            have NB300_337 := n12_
            have NB337_300 := n13_
            have NB313_337 := n14_
            have NB337_313 := n15_
            have HB := n16_
            clear n0_ n1_ n2_ n3_ n4_ n5_ n6_ n7_ n8_ n9_ n10_ n11_ n12_ n13_ n14_ n15_ n16_
            have hHeld : w82.cell? ⟨gb286, 0, none⟩ = some (.int .i64 a1_0) ∧ w82.cell? ⟨gb286, 1, none⟩ = some (.int .i64 a1_1) ∧ w82.cell? ⟨gb286, 2, none⟩ = some (.int .i64 a1_2) := hS_
            obtain ⟨Ao86, co86, eo86⟩ := Kd.R_slice HO336.out
            (first | subst eo86 | (injection eo86 with f1_ f2_ f3_; have f4_ := f1_.symm; have f5_ := f3_.symm; clear f1_ f2_ f3_; subst f4_; subst f5_))
            refine norm_ (a' := ?_) ?_ ?_
            rotate_left
            ·simp only [putAll, Act.put, List.setIfInBounds_toArray, List.set_cons_zero, List.set_cons_succ]
             rfl
            refine one_ (i := 6) (N := none) #[true, true, true, true, true, true, true] rfl rfl (by kernel_rfl) (by decide) (fun K hK => ?_)
            have hs83 : w82.cell? ⟨gb337, 0, none⟩ = some (.int .i64 0) := (blk_cell BK337.out 0).trans rfl
            have hfs83 := blk_frozen BK337.out 0
            have hns83_0 := NB286_337.out
            have hns83_1 := NB300_337.out
            have hns83_2 := NB313_337.out
            have hms83_0 := NB337_286.out
            have hms83_1 := NB337_300.out
            have hms83_2 := NB337_313.out
            have hs84 : w82.cell? ⟨gb337, 1, none⟩ = some (.int .i64 0) := (blk_cell BK337.out 1).trans rfl
            have hfs84 := blk_frozen BK337.out 1
            have hns84_0 := NB286_337.out
            have hns84_1 := NB300_337.out
            have hns84_2 := NB313_337.out
            have hms84_0 := NB337_286.out
            have hms84_1 := NB337_300.out
            have hms84_2 := NB337_313.out
            have hs85 : w82.cell? ⟨gb337, 2, none⟩ = some (.int .i64 0) := (blk_cell BK337.out 2).trans rfl
            have hfs85 := blk_frozen BK337.out 2
            have hns85_0 := NB286_337.out
            have hns85_1 := NB300_337.out
            have hns85_2 := NB313_337.out
            have hms85_0 := NB337_286.out
            have hms85_1 := NB337_300.out
            have hms85_2 := NB337_313.out
            have hs87 : w82.cell? ⟨gb337, 3, none⟩ = some (.slice none 0 0) := (blk_cell BK337.out 3).trans rfl
            have hfs87 := blk_frozen BK337.out 3
            have hns87_0 := NB286_337.out
            have hns87_1 := NB300_337.out
            have hns87_2 := NB313_337.out
            have hms87_0 := NB337_286.out
            have hms87_1 := NB337_300.out
            have hms87_2 := NB337_313.out
            refine skip_ (w1 := ?_) (by rfl) rfl ?_ ?_
            rotate_left
            ·go_simp
             rfl
            refine hK.out _ _ ⟨((cell_far (p := ⟨gb337, _, none⟩) NB286_337.out _).trans (((cell_far (p := ⟨gb337, _, none⟩) NB286_337.out _).trans (((cell_far (p := ⟨gb337, _, none⟩) NB286_337.out _).trans (((cell_far (p := ⟨gb337, _, none⟩) NB286_337.out _).trans (hHeld.1)))))))), ((cell_far (p := ⟨gb337, _, none⟩) NB286_337.out _).trans (((cell_far (p := ⟨gb337, _, none⟩) NB286_337.out _).trans (((cell_far (p := ⟨gb337, _, none⟩) NB286_337.out _).trans (((cell_far (p := ⟨gb337, _, none⟩) NB286_337.out _).trans (hHeld.2.1)))))))), ((cell_far (p := ⟨gb337, _, none⟩) NB286_337.out _).trans (((cell_far (p := ⟨gb337, _, none⟩) NB286_337.out _).trans (((cell_far (p := ⟨gb337, _, none⟩) NB286_337.out _).trans (((cell_far (p := ⟨gb337, _, none⟩) NB286_337.out _).trans (hHeld.2.2))))))))⟩ (fun hHeld => ?_)
            clear hK K
            refine done_ (by kernel_rfl) ?_
            have hnb88 := NB337_286.out
            have hnc88 := NB286_337.out
            have hnb89 := NB337_300.out
            have hnc89 := NB300_337.out
            have hnb90 := NB337_313.out
            have hnc90 := NB313_337.out
            have hcz91_0 : w82.cell? ⟨gb337, 0, none⟩ = some (.int .i64 0) := (blk_cell BK337.out 0).trans rfl
            have hcz91_1 : w82.cell? ⟨gb337, 1, none⟩ = some (.int .i64 0) := (blk_cell BK337.out 1).trans rfl
            have hcz91_2 : w82.cell? ⟨gb337, 2, none⟩ = some (.int .i64 0) := (blk_cell BK337.out 2).trans rfl
            have hcz91_3 : w82.cell? ⟨gb337, 3, none⟩ = some (.slice none 0 0) := (blk_cell BK337.out 3).trans rfl
            have hfz91_0 := blk_frozen BK337.out 0
            have hfz91_1 := blk_frozen BK337.out 1
            have hfz91_2 := blk_frozen BK337.out 2
            have hfz91_3 := blk_frozen BK337.out 3
            have hnb92 := NB300_286.out
            have hnc92 := NB286_300.out
            have hcz93_0 : w82.cell? ⟨gb300, 0, none⟩ = some (.int .i64 t294) := (blk_cell BK300.out 0).trans rfl
            have hcz93_1 : w82.cell? ⟨gb300, 1, none⟩ = some (.int .i64 t295) := (blk_cell BK300.out 1).trans rfl
            have hcz93_2 : w82.cell? ⟨gb300, 2, none⟩ = some (.int .i64 t296) := (blk_cell BK300.out 2).trans rfl
            have hcz93_3 : w82.cell? ⟨gb300, 3, none⟩ = some (.slice Ao30 t297.length co30) := (blk_cell BK300.out 3).trans rfl
            have hfz93_0 := blk_frozen BK300.out 0
            have hfz93_1 := blk_frozen BK300.out 1
            have hfz93_2 := blk_frozen BK300.out 2
            have hfz93_3 := blk_frozen BK300.out 3
            try go_wp2_with (first | ((with_reducible refine gate_callee (f := 76) rfl ?_); refine goesL_ (some 67) rfl rfl Try.func76 (by kernel_rfl) rfl #[.agg #[.int .i64 t331, .int .i64 t332, .int .i64 t333, .slice Ao86 t334.length co86], .agg #[.int .i64 t294, .int .i64 t295, .int .i64 t296, .slice Ao30 t297.length co30]] rfl (by (try simp only [List.map_toArray, List.map_cons, List.map_nil]); first | done | rfl | (simp only [List.length_drop, List.length_take]; rfl)) ?_; (with_reducible refine (laws_eqOutcome.calls kj17 t331 t332 t333 _ _ t334 t294 t295 t296 _ _ t297 true _ ?side1 ?side2 ?side3 ?side4 A65.out).mono ?_); (case side1 => refine (Kd.R_reads' (e := 33) (base := w.heap.size) (ok := fun k_ => (some k_ ≠ (.slice Ao30 t297.length co30 : Value).ownBlock ∧ some k_ ≠ (.slice Ao42 t310.length co42 : Value).ownBlock)) (n := t334.length) (c := co86) ?_).2.2; exact (by (with_reducible repeat (first | apply Kd.R_alloc | apply Kd.R_drewN | apply Kd.R_drew)); exact (Kd.R_mono (Kd.R_far (p := ⟨gb337, 3, none⟩) (Kd.R_far (p := ⟨gb337, 2, none⟩) (Kd.R_far (p := ⟨gb337, 1, none⟩) (Kd.R_far (p := ⟨gb337, 0, none⟩) (Kd.R_types HO336.out BK337.out (by decide)) (fun _ hk => hk.2) (.int .i64 t331)) (fun _ hk => hk.2) (.int .i64 t332)) (fun _ hk => hk.2) (.int .i64 t333)) (fun _ hk => hk.2) (.slice Ao86 t334.length co86)) (fun _ h_ => h_.1)))); (case side2 => exact (Kd.R_reads' HO336.out).2.1); (case side3 => refine (Kd.R_reads' (e := 33) (base := w.heap.size) (ok := fun k_ => (some k_ ≠ (.slice Ao86 t334.length co86 : Value).ownBlock ∧ some k_ ≠ (.slice Ao42 t310.length co42 : Value).ownBlock)) (n := t297.length) (c := co30) ?_).2.2; exact (by (with_reducible repeat (first | apply Kd.R_alloc | apply Kd.R_drewN | apply Kd.R_drew)); exact (Kd.R_mono (Kd.R_far (p := ⟨gb337, 3, none⟩) (Kd.R_far (p := ⟨gb337, 2, none⟩) (Kd.R_far (p := ⟨gb337, 1, none⟩) (Kd.R_far (p := ⟨gb337, 0, none⟩) (Kd.R_types HO_301003.out BK337.out (by decide)) (fun _ hk => hk.2) (.int .i64 t331)) (fun _ hk => hk.2) (.int .i64 t332)) (fun _ hk => hk.2) (.int .i64 t333)) (fun _ hk => hk.2) (.slice Ao86 t334.length co86)) (fun _ h_ => h_.1)))); (case side4 => exact (Kd.R_reads' HO_301003.out).2.1); rintro e w94 ⟨rfl, hb⟩; refine ⟨_, rfl, ?_⟩; have n0_ := am (Kd.R_below (by (with_reducible repeat (first | apply Kd.R_alloc | apply Kd.R_drewN | apply Kd.R_drew)); exact (Kd.R_mono (Kd.R_far (p := ⟨gb337, 3, none⟩) (Kd.R_far (p := ⟨gb337, 2, none⟩) (Kd.R_far (p := ⟨gb337, 1, none⟩) (Kd.R_far (p := ⟨gb337, 0, none⟩) (Kd.R_types HO_301003.out BK337.out (by decide)) (fun _ hk => hk.2) (.int .i64 t331)) (fun _ hk => hk.2) (.int .i64 t332)) (fun _ hk => hk.2) (.int .i64 t333)) (fun _ hk => hk.2) (.slice Ao86 t334.length co86)) (fun _ h_ => h_.1))) hb); have n1_ := am (Kd.R_below (by (with_reducible repeat (first | apply Kd.R_alloc | apply Kd.R_drewN | apply Kd.R_drew)); exact (Kd.R_mono (Kd.R_far (p := ⟨gb337, 3, none⟩) (Kd.R_far (p := ⟨gb337, 2, none⟩) (Kd.R_far (p := ⟨gb337, 1, none⟩) (Kd.R_far (p := ⟨gb337, 0, none⟩) (Kd.R_types HO_314003.out BK337.out (by decide)) (fun _ hk => hk.2) (.int .i64 t331)) (fun _ hk => hk.2) (.int .i64 t332)) (fun _ hk => hk.2) (.int .i64 t333)) (fun _ hk => hk.2) (.slice Ao86 t334.length co86)) (fun _ h_ => h_.1))) hb); have n2_ := am (Kd.R_below (by (with_reducible repeat (first | apply Kd.R_alloc | apply Kd.R_drewN | apply Kd.R_drew)); exact (Kd.R_mono (Kd.R_far (p := ⟨gb337, 3, none⟩) (Kd.R_far (p := ⟨gb337, 2, none⟩) (Kd.R_far (p := ⟨gb337, 1, none⟩) (Kd.R_far (p := ⟨gb337, 0, none⟩) (Kd.R_types HO327.out BK337.out (by decide)) (fun _ hk => hk.2) (.int .i64 t331)) (fun _ hk => hk.2) (.int .i64 t332)) (fun _ hk => hk.2) (.int .i64 t333)) (fun _ hk => hk.2) (.slice Ao86 t334.length co86)) (fun _ h_ => h_.1))) hb); have n3_ := am (Kd.R_below (by (with_reducible repeat (first | apply Kd.R_alloc | apply Kd.R_drewN | apply Kd.R_drew)); exact (Kd.R_mono (Kd.R_far (p := ⟨gb337, 3, none⟩) (Kd.R_far (p := ⟨gb337, 2, none⟩) (Kd.R_far (p := ⟨gb337, 1, none⟩) (Kd.R_far (p := ⟨gb337, 0, none⟩) (Kd.R_types HO336.out BK337.out (by decide)) (fun _ hk => hk.2) (.int .i64 t331)) (fun _ hk => hk.2) (.int .i64 t332)) (fun _ hk => hk.2) (.int .i64 t333)) (fun _ hk => hk.2) (.slice Ao86 t334.length co86)) (fun _ h_ => h_.1))) hb); have n4_ := am (blk_below (g := gb286) (o := .cells #[.int .i64 a1_0, .int .i64 a1_1, .int .i64 a1_2] 94 (0, 0)) (by (with_reducible repeat (first | apply bN | apply bD | apply bA)); refine blk_far ?_ NB286_337.out _; (with_reducible repeat (first | apply bN | apply bD | apply bA)); refine blk_far ?_ NB286_337.out _; (with_reducible repeat (first | apply bN | apply bD | apply bA)); refine blk_far ?_ NB286_337.out _; (with_reducible repeat (first | apply bN | apply bD | apply bA)); refine blk_far ?_ NB286_337.out _; (with_reducible repeat (first | apply bN | apply bD | apply bA)); exact BK286.out) hb); have n5_ := am (blk_below (g := gb300) (o := .cells #[.int .i64 t294, .int .i64 t295, .int .i64 t296, .slice Ao30 t297.length co30] 105 (0, 0)) (by (with_reducible repeat (first | apply bN | apply bD | apply bA)); refine blk_far ?_ NB300_337.out _; (with_reducible repeat (first | apply bN | apply bD | apply bA)); refine blk_far ?_ NB300_337.out _; (with_reducible repeat (first | apply bN | apply bD | apply bA)); refine blk_far ?_ NB300_337.out _; (with_reducible repeat (first | apply bN | apply bD | apply bA)); refine blk_far ?_ NB300_337.out _; (with_reducible repeat (first | apply bN | apply bD | apply bA)); exact BK300.out) hb); have n6_ := am (blk_below (g := gb313) (o := .cells #[.int .i64 t307, .int .i64 t308, .int .i64 t309, .slice Ao42 t310.length co42] 105 (0, 0)) (by (with_reducible repeat (first | apply bN | apply bD | apply bA)); refine blk_far ?_ NB313_337.out _; (with_reducible repeat (first | apply bN | apply bD | apply bA)); refine blk_far ?_ NB313_337.out _; (with_reducible repeat (first | apply bN | apply bD | apply bA)); refine blk_far ?_ NB313_337.out _; (with_reducible repeat (first | apply bN | apply bD | apply bA)); refine blk_far ?_ NB313_337.out _; (with_reducible repeat (first | apply bN | apply bD | apply bA)); exact BK313.out) hb); have n7_ := am (blk_below (g := gb337) (o := .cells #[.int .i64 t331, .int .i64 t332, .int .i64 t333, .slice Ao86 t334.length co86] 105 (0, 0)) (by (with_reducible repeat (first | apply bN | apply bD | apply bA)); refine blk_put (cs := #[.int .i64 t331, .int .i64 t332, .int .i64 t333, .slice none 0 0]) ?_ 3 _ rfl; (with_reducible repeat (first | apply bN | apply bD | apply bA)); refine blk_put (cs := #[.int .i64 t331, .int .i64 t332, .int .i64 0, .slice none 0 0]) ?_ 2 _ rfl; (with_reducible repeat (first | apply bN | apply bD | apply bA)); refine blk_put (cs := #[.int .i64 t331, .int .i64 0, .int .i64 0, .slice none 0 0]) ?_ 1 _ rfl; (with_reducible repeat (first | apply bN | apply bD | apply bA)); refine blk_put (cs := #[.int .i64 0, .int .i64 0, .int .i64 0, .slice none 0 0]) ?_ 0 _ rfl; (with_reducible repeat (first | apply bN | apply bD | apply bA)); exact BK337.out) hb); have n8_ := am (below_step (by repeat (first | (with_reducible first | exact HB.out | apply eA | apply eN | apply eD | refine eS ?_ GE286.out | refine eS ?_ GE300.out | refine eS ?_ GE313.out | refine eS ?_ GE337.out) | exact HB.out)) hb); clear HO_301003; clear HO_314003; clear HO327; clear HO336; clear BK286; clear BK300; clear BK313; clear BK337; clear HB; have HO_301003 := n0_; have HO_314003 := n1_; have HO327 := n2_; have HO336 := n3_; have BK286 := n4_; have BK300 := n5_; have BK313 := n6_; have BK337 := n7_; have HB := n8_; clear n0_ n1_ n2_ n3_ n4_ n5_ n6_ n7_ n8_; (try clear hb); (try clear hb2); (try clear hk); (try clear hi); obtain ⟨hcz95_0, hcz95_1, hcz95_2, hcz95_3, hfz95_0, hfz95_1, hfz95_2, hfz95_3⟩ := blk4 BK313.out) | ((with_reducible refine gate_callee (f := 78) rfl ?_); refine goesL_ (some 71) rfl rfl Try.func78 (by kernel_rfl) rfl #[.agg #[.int .i64 t307, .int .i64 t308, .int .i64 t309, .slice Ao42 t323.length co42], .int .i64 1] rfl (by (try simp only [List.map_toArray, List.map_cons, List.map_nil]); first | done | (rw [show t323.length = t310.length from (Kd.R_reads' HO_314003.out).1.symm] <;> rfl) | rfl | (simp only [List.length_drop, List.length_take]; rfl)) ?_; (with_reducible refine (laws_heldOutcome.calls kj17 t307 t308 t309 _ _ t323 1 t339 _ ?side1 ?side2 A67.out).mono ?_); (case side1 => repeat (first | exact (Kd.R_reads' HO_314003.out).2.2 | (with_reducible refine Kd.C_alloc ?_ _) | (with_reducible refine Kd.C_drewN ?_ _) | (with_reducible refine Kd.C_drew ?_))); (case side2 => rw [show t323.length = t310.length from (Kd.R_reads' HO_314003.out).1.symm]; exact (Kd.R_reads' HO_314003.out).2.1); rintro e w96 ⟨rfl, hb⟩; refine ⟨_, rfl, ?_⟩; have n0_ := am (Kd.R_below (by (with_reducible repeat (first | apply Kd.R_alloc | apply Kd.R_drewN | apply Kd.R_drew)); exact HO_301003.out) hb); have n1_ := am (Kd.R_below (by (with_reducible repeat (first | apply Kd.R_alloc | apply Kd.R_drewN | apply Kd.R_drew)); exact HO_314003.out) hb); have n2_ := am (Kd.R_below (by (with_reducible repeat (first | apply Kd.R_alloc | apply Kd.R_drewN | apply Kd.R_drew)); exact HO327.out) hb); have n3_ := am (Kd.R_below (by (with_reducible repeat (first | apply Kd.R_alloc | apply Kd.R_drewN | apply Kd.R_drew)); exact HO336.out) hb); have n4_ := am (blk_below (by (with_reducible repeat (first | apply bN | apply bD | apply bA)); exact BK286.out) hb); have n5_ := am (blk_below (by (with_reducible repeat (first | apply bN | apply bD | apply bA)); exact BK300.out) hb); have n6_ := am (blk_below (by (with_reducible repeat (first | apply bN | apply bD | apply bA)); exact BK313.out) hb); have n7_ := am (blk_below (by (with_reducible repeat (first | apply bN | apply bD | apply bA)); exact BK337.out) hb); have n8_ := am (below_step (by repeat (first | (with_reducible first | exact HB.out | apply eA | apply eN | apply eD | refine eS ?_ GE286.out | refine eS ?_ GE300.out | refine eS ?_ GE313.out | refine eS ?_ GE337.out) | exact HB.out)) hb); clear HO_301003; clear HO_314003; clear HO327; clear HO336; clear BK286; clear BK300; clear BK313; clear BK337; clear HB; have HO_301003 := n0_; have HO_314003 := n1_; have HO327 := n2_; have HO336 := n3_; have BK286 := n4_; have BK300 := n5_; have BK313 := n6_; have BK337 := n7_; have HB := n8_; clear n0_ n1_ n2_ n3_ n4_ n5_ n6_ n7_ n8_; (try clear hb); (try clear hb2); (try clear hk); (try clear hi)))
            go_ret
            exact ⟨by first | rfl | (simp [errW_none, errW_some] <;> rfl) | (simp [*, errW_none, errW_some] <;> rfl), by repeat (first | (with_reducible first | exact HB.out | apply eA | apply eN | apply eD | refine eS ?_ GE286.out | refine eS ?_ GE300.out | refine eS ?_ GE313.out | refine eS ?_ GE337.out) | exact HB.out)⟩
           ·rw [if_neg c69] at H
            have c69b0 : (t339 == t322) = false := beq_eq_false_iff_ne.mpr c69
            have c69b1 : (t339 != t322) = true := bne_iff_ne.mpr c69
            exact absurd ((Option.some.inj H).trans HRT.out) (by decide)
         ·replace c66 := Bool.eq_false_iff.mpr c66
          subst c66
          have H1 : (some false) = some r := by rw [if_neg (show ¬ (false = true) by decide)] at H; exact H
          clear H
          have H := H1
          clear H1
          exact absurd ((Option.some.inj H).trans HRT.out) (by decide)
        ·rw [if_neg c61] at H
         have c61b0 : (t324 == t322) = false := beq_eq_false_iff_ne.mpr c61
         have c61b1 : (t324 != t322) = true := bne_iff_ne.mpr c61
         exact absurd ((Option.some.inj H).trans HRT.out) (by decide)
   ·replace c16 := Bool.eq_false_iff.mpr c16
    subst c16
    have H1 : (some false) = some r := by rw [if_neg (show ¬ (false = true) by decide)] at H; exact H
    clear H
    have H := H1
    clear H1
    exact absurd ((Option.some.inj H).trans HRT.out) (by decide)
  ·replace c13 := Bool.eq_false_iff.mpr c13
   subst c13
   have H1 : (some false) = some r := by rw [if_neg (show ¬ (false = true) by decide)] at H; exact H
   clear H
   have H := H1
   clear H1
   exact absurd ((Option.some.inj H).trans HRT.out) (by decide)

end Go.Proofs.Ytacgichgadoddaa.QF
