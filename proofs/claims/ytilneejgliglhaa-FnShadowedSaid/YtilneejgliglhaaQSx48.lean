/- Go functions as Lean functions, each with its walk; printed by a program of this session (a scratch copy of print.py that follows nested field addresses and tells a law for the answer true). -/
import Derived.Test.YtilneejgliglhaaQSx0
import Derived.Test.YtilneejgliglhaaQSx16
import Derived.Test.YtilneejgliglhaaQSx27
import Derived.Test.YtilneejgliglhaaQSx28
import Derived.Test.YtilneejgliglhaaQSx32
import Derived.Test.YtilneejgliglhaaQSx41
import Derived.Test.YtilneejgliglhaaQSx44
import Derived.Test.YtilneejgliglhaaQSx45
import Derived.Test.YtilneejgliglhaaQSx46
import Derived.Test.YtilneejgliglhaaQSx47
import Derived.Test.YtilneejgliglhaaQSxM0
namespace Go.Proofs.Ytilneejgliglhaa.QS
open Go.RowKit Go.Proofs.YtilneejgliglhaaW.PrintWords Go.Proofs.YtilneejgliglhaaW.PrintLast Go.Proofs.YtilneejgliglhaaW.PrintMore Go.Proofs.Ytilneejgliglhaa.Short
attribute [local go_sem] max2_int min2_int max_two min_two max_three min_three max_four min_four   -- for this text's walks alone
set_option linter.unusedVariables false
set_option linter.unusedSimpArgs false

/-! ### laws_FnShadowed: function 4 -/
mutual
def laws_FnShadowed.j0 : Nat → List (S84) → List Int → Bool → Int → Int → Int → Option (Bool)
 | 0, _, _, _, _, _, _ => none
 | k + 1, x3, x5, x36, x434000, x434001, x434002 => if x36 = true then (some false) else (laws_FnShadowed.l0 k x3 x5 0 x434000 x434001 x434002)
def laws_FnShadowed.l0 : Nat → List (S84) → List Int → Int → Int → Int → Int → Option (Bool)
 | 0, _, _, _, _, _, _ => none
 | k + 1, x3, x5, x6, x434000, x434001, x434002 => if x6 < (x3.length : Int) then ((laws_contains.f k x5 x6).bind fun t445 => ((impl_IsShadowed.f k x3 x6).bind fun t446 => (if (t445 != t446) = true then (some false) else (laws_FnShadowed.l0 k x3 x5 (wrap64 (x6 + 1)) x434000 x434001 x434002)))) else ((impl_AppliesTo.f k x3 x434000 x434001 x434002).bind fun t447 => ((impl_ClashOf.f k x3 x434000 x434001 x434002).bind fun t450 => (if t450 = true then (if (t447.length : Int) < 2 then (some false) else ((impl_ClashCount.f k x3 x434000).bind fun t451 => (if t451 = 0 then (some false) else ((impl_ClashCount.f k x3 x434000).bind fun t452 => (some (decide (t452 ≤ 40))))))) else ((impl_ClashCount.f k x3 x434000).bind fun t453 => (some (decide (t453 ≤ 40)))))))
end
def laws_FnShadowed.f (k : Nat) (l0 : List Int) : Option (Bool) := (laws_big.f l0).bind fun t426 => (if t426 = true then (some true) else ((spec_DrawDecideRule.f k l0).bind fun bt427 => ((impl_ShadowedRules.f k bt427.1).bind fun t434 => ((impl_DecideRule.f k bt427.1 bt427.2.1 bt427.2.2.1 bt427.2.2.2).bind fun t437 => ((spec_DecideRule.f k bt427.1 bt427.2.1 bt427.2.2.1 bt427.2.2.2).bind fun t438 => (if t437 = t438 then ((impl_DecideRule.f k bt427.1 bt427.2.1 bt427.2.2.1 bt427.2.2.2).bind fun t439 => ((laws_contains.f k t434 t439).bind fun t440 => (if t440 = true then (laws_FnShadowed.j0 k bt427.1 t434 true bt427.2.1 bt427.2.2.1 bt427.2.2.2) else ((impl_NeverChosen.f k bt427.1).bind fun t441 => ((laws_within.f k t434 t441).bind fun t444 => (laws_FnShadowed.j0 k bt427.1 t434 (!t444) bt427.2.1 bt427.2.2.1 bt427.2.2.2)))))) else (some false)))))))
set_option maxHeartbeats 8000000 in
set_option maxRecDepth 100000 in
theorem laws_FnShadowed.calls (k : Nat) (A0 : Option Addr) (c0 : Nat) (l0 : List Int) (r : Bool) (w : World) (hr0 : Kd.C (Kd.int .u8) w A0 l0.length l0) (hc0 : l0.length ≤ c0) (h : laws_FnShadowed.f k l0 = some r) (hr_ : r = true) :
  Calls Try.prog 4 #[.slice A0 l0.length c0] w fun e w' => e = .returned (.bool r) ∧ Below w.heap.size w w' := by
 have HRT := Aside0.mk hr_
 clear hr_
 have hu50 := Try.underlying50
 have HR0 := Aside0.mk hr0
 have HC0 := Aside0.mk hc0
 clear hr0 hc0
 have HB := am (Below.refl w.heap.size w)
 have H : ((laws_big.f l0).bind fun t426 => (if t426 = true then (some true) else ((spec_DrawDecideRule.f k l0).bind fun bt427 => ((impl_ShadowedRules.f k bt427.1).bind fun t434 => ((impl_DecideRule.f k bt427.1 bt427.2.1 bt427.2.2.1 bt427.2.2.2).bind fun t437 => ((spec_DecideRule.f k bt427.1 bt427.2.1 bt427.2.2.1 bt427.2.2.2).bind fun t438 => (if t437 = t438 then ((impl_DecideRule.f k bt427.1 bt427.2.1 bt427.2.2.1 bt427.2.2.2).bind fun t439 => ((laws_contains.f k t434 t439).bind fun t440 => (if t440 = true then (laws_FnShadowed.j0 k bt427.1 t434 true bt427.2.1 bt427.2.2.1 bt427.2.2.2) else ((impl_NeverChosen.f k bt427.1).bind fun t441 => ((laws_within.f k t434 t441).bind fun t444 => (laws_FnShadowed.j0 k bt427.1 t434 (!t444) bt427.2.1 bt427.2.2.1 bt427.2.2.2)))))) else (some false)))))))) = some r := h
 clear h
 replace H := Option.bind_eq_some_iff.mp H
 obtain ⟨t426, A20, H⟩ := H
 replace H : (if t426 = true then (some true) else ((spec_DrawDecideRule.f k l0).bind fun bt427 => ((impl_ShadowedRules.f k bt427.1).bind fun t434 => ((impl_DecideRule.f k bt427.1 bt427.2.1 bt427.2.2.1 bt427.2.2.2).bind fun t437 => ((spec_DecideRule.f k bt427.1 bt427.2.1 bt427.2.2.1 bt427.2.2.2).bind fun t438 => (if t437 = t438 then ((impl_DecideRule.f k bt427.1 bt427.2.1 bt427.2.2.1 bt427.2.2.2).bind fun t439 => ((laws_contains.f k t434 t439).bind fun t440 => (if t440 = true then (laws_FnShadowed.j0 k bt427.1 t434 true bt427.2.1 bt427.2.2.1 bt427.2.2.2) else ((impl_NeverChosen.f k bt427.1).bind fun t441 => ((laws_within.f k t434 t441).bind fun t444 => (laws_FnShadowed.j0 k bt427.1 t434 (!t444) bt427.2.1 bt427.2.2.1 bt427.2.2.2)))))) else (some false))))))) = some r := H
 have A2 := Aside0.mk A20
 clear A20
 by_cases c3 : t426 = true
 ·subst c3
  have H1 : (some true) = some r := by rw [if_pos rfl] at H; exact H
  clear H
  have H := H1
  clear H1
  obtain rfl := Option.some.inj H
  go_enter Try.func4, Try.ntmps4
  go_wp2_with (first | ((with_reducible refine gate_callee (f := 5) rfl ?_); refine goesL_ (some 10) rfl rfl Try.func5 (by kernel_rfl) rfl #[.slice A0 l0.length c0] rfl (by (try simp only [List.map_toArray, List.map_cons, List.map_nil]); first | done | rfl | (simp only [List.length_drop, List.length_take]; rfl)) ?_; (with_reducible refine (laws_big.calls _ _ l0 true _ ?side1 ?side2 A2.out).mono ?_); (case side1 => exact cB (HR0.out)); (case side2 => exact HC0.out); rintro e w' ⟨rfl, ⟨nd, rfl⟩⟩; refine ⟨_, rfl, ?_⟩))
  go_ret
  exact ⟨by first | rfl | (simp [errW_none, errW_some] <;> rfl) | (simp [*, errW_none, errW_some] <;> rfl), sB HB.out⟩
 ·replace c3 := Bool.eq_false_iff.mpr c3
  subst c3
  have H1 : ((spec_DrawDecideRule.f k l0).bind fun bt427 => ((impl_ShadowedRules.f k bt427.1).bind fun t434 => ((impl_DecideRule.f k bt427.1 bt427.2.1 bt427.2.2.1 bt427.2.2.2).bind fun t437 => ((spec_DecideRule.f k bt427.1 bt427.2.1 bt427.2.2.1 bt427.2.2.2).bind fun t438 => (if t437 = t438 then ((impl_DecideRule.f k bt427.1 bt427.2.1 bt427.2.2.1 bt427.2.2.2).bind fun t439 => ((laws_contains.f k t434 t439).bind fun t440 => (if t440 = true then (laws_FnShadowed.j0 k bt427.1 t434 true bt427.2.1 bt427.2.2.1 bt427.2.2.2) else ((impl_NeverChosen.f k bt427.1).bind fun t441 => ((laws_within.f k t434 t441).bind fun t444 => (laws_FnShadowed.j0 k bt427.1 t434 (!t444) bt427.2.1 bt427.2.2.1 bt427.2.2.2)))))) else (some false)))))) = some r := by rw [if_neg (show ¬ (false = true) by decide)] at H; exact H
  clear H
  have H := H1
  clear H1
  replace H := Option.bind_eq_some_iff.mp H
  obtain ⟨⟨t427, t430, t431, t432⟩, A40, H⟩ := H
  replace H : ((impl_ShadowedRules.f k t427).bind fun t434 => ((impl_DecideRule.f k t427 t430 t431 t432).bind fun t437 => ((spec_DecideRule.f k t427 t430 t431 t432).bind fun t438 => (if t437 = t438 then ((impl_DecideRule.f k t427 t430 t431 t432).bind fun t439 => ((laws_contains.f k t434 t439).bind fun t440 => (if t440 = true then (laws_FnShadowed.j0 k t427 t434 true t430 t431 t432) else ((impl_NeverChosen.f k t427).bind fun t441 => ((laws_within.f k t434 t441).bind fun t444 => (laws_FnShadowed.j0 k t427 t434 (!t444) t430 t431 t432)))))) else (some false))))) = some r := H
  have A4 := Aside0.mk A40
  clear A40
  replace H := Option.bind_eq_some_iff.mp H
  obtain ⟨t434, A50, H⟩ := H
  replace H : ((impl_DecideRule.f k t427 t430 t431 t432).bind fun t437 => ((spec_DecideRule.f k t427 t430 t431 t432).bind fun t438 => (if t437 = t438 then ((impl_DecideRule.f k t427 t430 t431 t432).bind fun t439 => ((laws_contains.f k t434 t439).bind fun t440 => (if t440 = true then (laws_FnShadowed.j0 k t427 t434 true t430 t431 t432) else ((impl_NeverChosen.f k t427).bind fun t441 => ((laws_within.f k t434 t441).bind fun t444 => (laws_FnShadowed.j0 k t427 t434 (!t444) t430 t431 t432)))))) else (some false)))) = some r := H
  have A5 := Aside0.mk A50
  clear A50
  replace H := Option.bind_eq_some_iff.mp H
  obtain ⟨t437, A60, H⟩ := H
  replace H : ((spec_DecideRule.f k t427 t430 t431 t432).bind fun t438 => (if t437 = t438 then ((impl_DecideRule.f k t427 t430 t431 t432).bind fun t439 => ((laws_contains.f k t434 t439).bind fun t440 => (if t440 = true then (laws_FnShadowed.j0 k t427 t434 true t430 t431 t432) else ((impl_NeverChosen.f k t427).bind fun t441 => ((laws_within.f k t434 t441).bind fun t444 => (laws_FnShadowed.j0 k t427 t434 (!t444) t430 t431 t432)))))) else (some false))) = some r := H
  have A6 := Aside0.mk A60
  clear A60
  replace H := Option.bind_eq_some_iff.mp H
  obtain ⟨t438, A70, H⟩ := H
  replace H : (if t437 = t438 then ((impl_DecideRule.f k t427 t430 t431 t432).bind fun t439 => ((laws_contains.f k t434 t439).bind fun t440 => (if t440 = true then (laws_FnShadowed.j0 k t427 t434 true t430 t431 t432) else ((impl_NeverChosen.f k t427).bind fun t441 => ((laws_within.f k t434 t441).bind fun t444 => (laws_FnShadowed.j0 k t427 t434 (!t444) t430 t431 t432)))))) else (some false)) = some r := H
  have A7 := Aside0.mk A70
  clear A70
  by_cases c8 : t437 = t438
  ·rw [if_pos c8] at H
   have c8b0 : (t437 == t438) = true := beq_iff_eq.mpr c8
   have c8b1 : (t437 != t438) = false := bne_eq_false_iff_eq.mpr c8
   clear c8
   have HC9 := Aside0.mk H
   clear H
   go_enter Try.func4, Try.ntmps4
   try go_wp2_with (first | ((with_reducible refine gate_callee (f := 5) rfl ?_); refine goesL_ (some 10) rfl rfl Try.func5 (by kernel_rfl) rfl #[.slice A0 l0.length c0] rfl (by (try simp only [List.map_toArray, List.map_cons, List.map_nil]); first | done | rfl | (simp only [List.length_drop, List.length_take]; rfl)) ?_; (with_reducible refine (laws_big.calls _ _ l0 false _ ?side1 ?side2 A2.out).mono ?_); (case side1 => exact cB (HR0.out)); (case side2 => exact HC0.out); rintro e w' ⟨rfl, ⟨nd, rfl⟩⟩; refine ⟨_, rfl, ?_⟩) | ((with_reducible refine gate_callee (f := 19) rfl ?_); refine goesL_ (some 13) rfl rfl Try.func19 (by kernel_rfl) rfl #[.slice A0 l0.length c0] rfl (by (try simp only [List.map_toArray, List.map_cons, List.map_nil]); first | done | rfl | (simp only [List.length_drop, List.length_take]; rfl)) ?_; (with_reducible refine (spec_DrawDecideRule.calls k _ _ l0 t427 t430 t431 t432 _ ?side1 ?side2 A4.out).mono ?_); (case side1 => exact cB (HR0.out)); (case side2 => exact HC0.out); rintro e w10 ⟨v428, rfl, ho0, hb⟩; refine ⟨_, rfl, ?_⟩; have n0_ := am (Kd.R_lower ho0 (below_size (sB HB.out))); have n1_ := am (below_step (sB HB.out) hb); clear HB; have HO429 := n0_; have HB := n1_; clear n0_ n1_; (try clear hb); (try clear hb2); (try clear hk); (try clear hi); (try clear ho0)) | ((with_reducible refine gate_dst (N := 4) rfl ?_); (try (refine gate_guard (by rfl) ?_; dsimp only)); refine box_event ?hg (N := 4) ?hd (cs := #[.int .i64 0, .int .i64 0, .int .i64 0]) (t := 50) ?hr ?_; (case hd => rfl); (case hg => rfl); (case hr => first | (go_simp; done) | (go_simp; rfl)); intro gb433 hg w11 hbox hb; have n0_ := am (Kd.R_below (rB HO429.out) hb); have q_ := hbx_ (sB HB.out) hg hb; have n1_ := q_.1; have n2_ := am (hbox); have n3_ := q_.2; have n4_ := n3_; clear HO429; clear HB; have HO429 := n0_; have HB := n1_; have BK433 := n2_; have GW433 := n3_; have GE433 := n4_; clear n0_ n1_ n2_ n3_ n4_; clear hb hbox hg; obtain ⟨hcz12_0, hcz12_1, hcz12_2, hfz12_0, hfz12_1, hfz12_2⟩ := blk3 BK433.out; obtain ⟨Ao13, co13, eo13⟩ := Kd.R_slice HO429.out; subst eo13) | ((with_reducible refine gate_callee (f := 20) rfl ?_); refine goesL_ (some 17) rfl rfl Try.func20 (by kernel_rfl) rfl #[.slice Ao13 t427.length co13] rfl (by (try simp only [List.map_toArray, List.map_cons, List.map_nil]); first | done | rfl | (simp only [List.length_drop, List.length_take]; rfl)) ?_; (with_reducible refine (impl_ShadowedRules.calls k _ _ t427 t434 _ ?side1 ?side2 A5.out).mono ?_); (case side1 => refine (Kd.R_reads' (e := 84) (base := w.heap.size) (ok := fun k_ => True) (n := t427.length) (c := co13) ?_).2.2; exact (by (with_reducible repeat (first | apply Kd.R_alloc | apply Kd.R_drewN | apply Kd.R_drew)); exact (Kd.R_mono (Kd.R_far (p := ⟨gb433, 2, none⟩) (Kd.R_far (p := ⟨gb433, 1, none⟩) (Kd.R_far (p := ⟨gb433, 0, none⟩) (Kd.R_types HO429.out BK433.out (by decide)) (fun _ hk => hk.2) (.int .i64 t430)) (fun _ hk => hk.2) (.int .i64 t431)) (fun _ hk => hk.2) (.int .i64 t432)) (fun _ h_ => h_.1)))); (case side2 => exact (Kd.R_reads' HO429.out).2.1); rintro e w14 ⟨v435, rfl, ho0, hb⟩; refine ⟨_, rfl, ?_⟩; have n0_ := am (Kd.R_below (by (with_reducible repeat (first | apply Kd.R_alloc | apply Kd.R_drewN | apply Kd.R_drew)); exact (Kd.R_mono (Kd.R_far (p := ⟨gb433, 2, none⟩) (Kd.R_far (p := ⟨gb433, 1, none⟩) (Kd.R_far (p := ⟨gb433, 0, none⟩) (Kd.R_types HO429.out BK433.out (by decide)) (fun _ hk => hk.2) (.int .i64 t430)) (fun _ hk => hk.2) (.int .i64 t431)) (fun _ hk => hk.2) (.int .i64 t432)) (fun _ h_ => h_.1))) hb); have n1_ := am (Kd.R_lower ho0 (below_size (sB HB.out))); have n2_ := am (blk_below (g := gb433) (o := .cells #[.int .i64 t430, .int .i64 t431, .int .i64 t432] 50 (0, 0)) (by refine bB ?_; refine blk_put (cs := #[.int .i64 t430, .int .i64 t431, .int .i64 0]) ?_ 2 _ rfl; refine bB ?_; refine blk_put (cs := #[.int .i64 t430, .int .i64 0, .int .i64 0]) ?_ 1 _ rfl; refine bB ?_; refine blk_put (cs := #[.int .i64 0, .int .i64 0, .int .i64 0]) ?_ 0 _ rfl; refine bB ?_; exact BK433.out) hb); have n3_ := am (below_step (sB HB.out) hb); clear HO429; clear BK433; clear HB; have HO429 := n0_; have HO436 := n1_; have BK433 := n2_; have HB := n3_; clear n0_ n1_ n2_ n3_; (try clear hb); (try clear hb2); (try clear hk); (try clear hi); (try clear ho0)))
   have n0_ := am (Kd.R_drew HO429.out)
   have n1_ := am (Kd.R_drew HO436.out)
   have n2_ := am (blk_drew BK433.out)
   have n3_ := am (below_drew1 HB.out)
   clear HO429
   clear HO436
   clear BK433
   clear HB
   have HO429 := n0_
   have HO436 := n1_
   have BK433 := n2_
   have HB := n3_
   clear n0_ n1_ n2_ n3_
   refine start_ (n := 7) (S := fun w' => w'.cell? ⟨gb433, 0, none⟩ = some (.int .i64 t430) ∧ w'.cell? ⟨gb433, 1, none⟩ = some (.int .i64 t431) ∧ w'.cell? ⟨gb433, 2, none⟩ = some (.int .i64 t432)) (ds := []) #[z,z,z,z,z,z,z] (by kernel_rfl) rfl rfl ⟨(blk_cell BK433.out 0).trans rfl, (blk_cell BK433.out 1).trans rfl, (blk_cell BK433.out 2).trans rfl⟩ (fun hHeld => ?_)
   generalize w14.drew = w15 at HO429 HO436 BK433 HB hHeld ⊢
   refine pure_ (i := 0) (N := some 18) (v := ?_) (a' := ?_) #[o,z,z,z,z,z,z] rfl rfl (by kernel_rfl) (fun _ _ _ h => h) (Or.inl ⟨by rfl, ?_⟩) ?_ ?_
   rotate_left
   ·intro w'
    go_simp
    with_reducible rfl
   rotate_left
   ·simp only [Act.put, qa, qb, qc, i64_w, i32_w]
    rfl
   refine pure_ (i := 3) (N := some 21) (v := ?_) (a' := ?_) #[o,z,z,o,z,z,z] rfl rfl (by kernel_rfl) (fun _ _ _ h => h) (Or.inl ⟨by rfl, ?_⟩) ?_ ?_
   rotate_left
   ·intro w'
    go_simp
    with_reducible rfl
   rotate_left
   ·simp only [Act.put, qa, qb, qc, i64_w, i32_w]
    rfl
   refine take_ (i := 1) (N := some 19) (v := ?_) (a' := ?_) #[o,o,z,o,z,z,z] rfl rfl (by kernel_rfl) (fun _ _ _ h => h) (Or.inl ⟨by rfl, ?_⟩) hHeld ?_ ?_
   rotate_left
   ·rintro w' ⟨s0, s1, s2⟩
    go_simp
    with_reducible rfl
   rotate_left
   ·simp only [Act.put, qa, qb, qc, i64_w, i32_w]
    rfl
   refine take_ (i := 4) (N := some 22) (v := ?_) (a' := ?_) #[o,o,z,o,o,z,z] rfl rfl (by kernel_rfl) (fun _ _ _ h => h) (Or.inl ⟨by rfl, ?_⟩) hHeld ?_ ?_
   rotate_left
   ·rintro w' ⟨s0, s1, s2⟩
    go_simp
    with_reducible rfl
   rotate_left
   ·simp only [Act.put, qa, qb, qc, i64_w, i32_w]
    rfl
   refine one_ (i := 2) (N := some 20) #[o,o,o,o,o,z,z] rfl rfl (by kernel_rfl) (by decide) (fun K hK => ?_)
   refine goes_ Try.func21 (by kernel_rfl) rfl #[.slice Ao13 t427.length co13, .agg #[.int .i64 t430, .int .i64 t431, .int .i64 t432]] (by rfl) rfl rfl (by (try simp only [List.map_toArray, List.map_cons, List.map_nil]); first | done | rfl | (simp only [List.length_drop, List.length_take]; rfl)) ?_
   with_reducible refine (impl_DecideRule.calls k _ _ t427 t430 t431 t432 t437 _ ?side1 ?side2 A6.out).mono ?_
   (case side1 => exact cB ((Kd.R_reads' HO429.out).2.2))
   (case side2 => exact (Kd.R_reads' HO429.out).2.1)
   rintro e w16 ⟨rfl, hb⟩
   refine ⟨_, rfl, ?_⟩
   replace HO429 := am (Kd.R_below (rB HO429.out) hb)
   replace HO436 := am (Kd.R_below (rB HO436.out) hb)
   replace BK433 := am (blk_below (bB BK433.out) hb)
   replace HB := am (below_step (sB HB.out) hb)
   (try clear hb)
   (try clear hb2)
   (try clear hk)
   (try clear hi)
   refine hK.out _ _ ⟨(blk_cell BK433.out 0).trans rfl, (blk_cell BK433.out 1).trans rfl, (blk_cell BK433.out 2).trans rfl⟩ (fun hHeld => ?_)
   clear hK K
   refine norm_ (a' := ?_) ?_ ?_
   rotate_left
   ·show Act.put _ (some 20) _ = _
    simp only [Act.put, qa, qb, qc, i64_w, i32_w]
    rfl
   refine one_ (i := 5) (N := some 23) #[o,o,o,o,o,o,z] rfl rfl (by kernel_rfl) (by decide) (fun K hK => ?_)
   refine goes_ Try.func22 (by kernel_rfl) rfl #[.slice Ao13 t427.length co13, .agg #[.int .i64 t430, .int .i64 t431, .int .i64 t432]] (by rfl) rfl rfl (by (try simp only [List.map_toArray, List.map_cons, List.map_nil]); first | done | rfl | (simp only [List.length_drop, List.length_take]; rfl)) ?_
   with_reducible refine (spec_DecideRule.calls k _ _ t427 t430 t431 t432 t438 _ ?side1 ?side2 A7.out).mono ?_
   (case side1 => exact cB ((Kd.R_reads' HO429.out).2.2))
   (case side2 => exact (Kd.R_reads' HO429.out).2.1)
   rintro e w17 ⟨rfl, hb⟩
   refine ⟨_, rfl, ?_⟩
   replace HO429 := am (Kd.R_below (rB HO429.out) hb)
   replace HO436 := am (Kd.R_below (rB HO436.out) hb)
   replace BK433 := am (blk_below (bB BK433.out) hb)
   replace HB := am (below_step (sB HB.out) hb)
   (try clear hb)
   (try clear hb2)
   (try clear hk)
   (try clear hi)
   refine hK.out _ _ ⟨(blk_cell BK433.out 0).trans rfl, (blk_cell BK433.out 1).trans rfl, (blk_cell BK433.out 2).trans rfl⟩ (fun hHeld => ?_)
   clear hK K
   refine norm_ (a' := ?_) ?_ ?_
   rotate_left
   ·show Act.put _ (some 23) _ = _
    simp only [Act.put, qa, qb, qc, i64_w, i32_w]
    rfl
   refine pure_ (i := 6) (N := some 24) (v := ?_) (a' := ?_) #[o,o,o,o,o,o,o] rfl rfl (by kernel_rfl) (fun _ _ _ h => h) (Or.inl ⟨by rfl, ?_⟩) ?_ ?_
   rotate_left
   ·intro w'
    go_simp
    with_reducible rfl
   rotate_left
   ·simp only [Act.put, qa, qb, qc, i64_w, i32_w]
    rfl
   refine done_ (by kernel_rfl) ?_
   go_upto_region 7 with (fail)
   go_cut [36] (fun v36 wc => ∃ (kq : Nat) (x36_8 : Bool), v36 = .bool x36_8 ∧ Aside0 (laws_FnShadowed.j0 kq t427 t434 x36_8 t430 t431 t432 = some r) ∧ Aside0 (kq ≤ k) ∧ Aside0 (Kd.R k84 84 wc w.heap.size (fun _ => True) (.slice Ao13 t427.length co13) t427) ∧ Aside0 (Kd.R (Kd.int .i64) 3 wc w.heap.size (fun _ => True) v435 t434) ∧ Aside0 (wc.heap[gb433]? = some (.cells #[.int .i64 t430, .int .i64 t431, .int .i64 t432] 50 (0, 0))) ∧ Aside0 (Below w.heap.size w wc))
   case first =>
    have H := HC9.out
    clear HC9
    replace H := Option.bind_eq_some_iff.mp H
    obtain ⟨t439, A180, H⟩ := H
    replace H : ((laws_contains.f k t434 t439).bind fun t440 => (if t440 = true then (laws_FnShadowed.j0 k t427 t434 true t430 t431 t432) else ((impl_NeverChosen.f k t427).bind fun t441 => ((laws_within.f k t434 t441).bind fun t444 => (laws_FnShadowed.j0 k t427 t434 (!t444) t430 t431 t432))))) = some r := H
    have A18 := Aside0.mk A180
    clear A180
    replace H := Option.bind_eq_some_iff.mp H
    obtain ⟨t440, A190, H⟩ := H
    replace H : (if t440 = true then (laws_FnShadowed.j0 k t427 t434 true t430 t431 t432) else ((impl_NeverChosen.f k t427).bind fun t441 => ((laws_within.f k t434 t441).bind fun t444 => (laws_FnShadowed.j0 k t427 t434 (!t444) t430 t431 t432)))) = some r := H
    have A19 := Aside0.mk A190
    clear A190
    by_cases c20 : t440 = true
    ·subst c20
     have H1 : (laws_FnShadowed.j0 k t427 t434 true t430 t431 t432) = some r := by rw [if_pos rfl] at H; exact H
     clear H
     have H := H1
     clear H1
     have H' := Aside0.mk H
     clear H
     have hcz21_0 : w17.cell? ⟨gb433, 0, none⟩ = some (.int .i64 t430) := (blk_cell BK433.out 0).trans rfl
     have hcz21_1 : w17.cell? ⟨gb433, 1, none⟩ = some (.int .i64 t431) := (blk_cell BK433.out 1).trans rfl
     have hcz21_2 : w17.cell? ⟨gb433, 2, none⟩ = some (.int .i64 t432) := (blk_cell BK433.out 2).trans rfl
     have hfz21_0 := blk_frozen BK433.out 0
     have hfz21_1 := blk_frozen BK433.out 1
     have hfz21_2 := blk_frozen BK433.out 2
     go_wp2_with (first | ((with_reducible refine gate_callee (f := 21) rfl ?_); refine goesL_ (some 28) rfl rfl Try.func21 (by kernel_rfl) rfl #[.slice Ao13 t427.length co13, .agg #[.int .i64 t430, .int .i64 t431, .int .i64 t432]] rfl (by (try simp only [List.map_toArray, List.map_cons, List.map_nil]); first | done | rfl | (simp only [List.length_drop, List.length_take]; rfl)) ?_; (with_reducible refine (impl_DecideRule.calls k _ _ t427 t430 t431 t432 t439 _ ?side1 ?side2 A18.out).mono ?_); (case side1 => exact cB ((Kd.R_reads' HO429.out).2.2)); (case side2 => exact (Kd.R_reads' HO429.out).2.1); rintro e w22 ⟨rfl, hb⟩; refine ⟨_, rfl, ?_⟩; replace HO429 := am (Kd.R_below (rB HO429.out) hb); replace HO436 := am (Kd.R_below (rB HO436.out) hb); replace BK433 := am (blk_below (bB BK433.out) hb); replace HB := am (below_step (sB HB.out) hb); (try clear hb); (try clear hb2); (try clear hk); (try clear hi); obtain ⟨Ao23, co23, eo23⟩ := Kd.R_slice HO436.out; subst eo23) | ((with_reducible refine gate_callee (f := 23) rfl ?_); refine goesL_ (some 29) rfl rfl Try.func23 (by kernel_rfl) rfl #[.slice Ao23 t434.length co23, .int .i64 t439] rfl (by (try simp only [List.map_toArray, List.map_cons, List.map_nil]); first | done | rfl | (simp only [List.length_drop, List.length_take]; rfl)) ?_; (with_reducible refine (laws_contains.calls k _ _ t434 t439 true _ ?side1 ?side2 A19.out).mono ?_); (case side1 => exact cB ((Kd.R_reads' HO436.out).2.2)); (case side2 => exact (Kd.R_reads' HO436.out).2.1); rintro e w' ⟨rfl, ⟨nd, rfl⟩⟩; refine ⟨_, rfl, ?_⟩))
     go_meet
     case rel => exact ⟨_, (true), (by first | rfl | (simp; done) | (simp [*]; done)), H', ⟨by first | omega | exact Nat.le_refl _⟩, ⟨by (with_reducible repeat (first | apply Kd.R_alloc | apply Kd.R_drewN | apply Kd.R_drew)); exact HO429.out⟩, ⟨by (with_reducible repeat (first | apply Kd.R_alloc | apply Kd.R_drewN | apply Kd.R_drew)); exact HO436.out⟩, ⟨bB BK433.out⟩, ⟨sB HB.out⟩⟩
    ·replace c20 := Bool.eq_false_iff.mpr c20
     subst c20
     have H1 : ((impl_NeverChosen.f k t427).bind fun t441 => ((laws_within.f k t434 t441).bind fun t444 => (laws_FnShadowed.j0 k t427 t434 (!t444) t430 t431 t432))) = some r := by rw [if_neg (show ¬ (false = true) by decide)] at H; exact H
     clear H
     have H := H1
     clear H1
     replace H := Option.bind_eq_some_iff.mp H
     obtain ⟨t441, A240, H⟩ := H
     replace H : ((laws_within.f k t434 t441).bind fun t444 => (laws_FnShadowed.j0 k t427 t434 (!t444) t430 t431 t432)) = some r := H
     have A24 := Aside0.mk A240
     clear A240
     replace H := Option.bind_eq_some_iff.mp H
     obtain ⟨t444, A250, H⟩ := H
     replace H : (laws_FnShadowed.j0 k t427 t434 (!t444) t430 t431 t432) = some r := H
     have A25 := Aside0.mk A250
     clear A250
     have H' := Aside0.mk H
     clear H
     have hcz26_0 : w17.cell? ⟨gb433, 0, none⟩ = some (.int .i64 t430) := (blk_cell BK433.out 0).trans rfl
     have hcz26_1 : w17.cell? ⟨gb433, 1, none⟩ = some (.int .i64 t431) := (blk_cell BK433.out 1).trans rfl
     have hcz26_2 : w17.cell? ⟨gb433, 2, none⟩ = some (.int .i64 t432) := (blk_cell BK433.out 2).trans rfl
     have hfz26_0 := blk_frozen BK433.out 0
     have hfz26_1 := blk_frozen BK433.out 1
     have hfz26_2 := blk_frozen BK433.out 2
     go_wp2_with (first | ((with_reducible refine gate_callee (f := 21) rfl ?_); refine goesL_ (some 28) rfl rfl Try.func21 (by kernel_rfl) rfl #[.slice Ao13 t427.length co13, .agg #[.int .i64 t430, .int .i64 t431, .int .i64 t432]] rfl (by (try simp only [List.map_toArray, List.map_cons, List.map_nil]); first | done | rfl | (simp only [List.length_drop, List.length_take]; rfl)) ?_; (with_reducible refine (impl_DecideRule.calls k _ _ t427 t430 t431 t432 t439 _ ?side1 ?side2 A18.out).mono ?_); (case side1 => exact cB ((Kd.R_reads' HO429.out).2.2)); (case side2 => exact (Kd.R_reads' HO429.out).2.1); rintro e w27 ⟨rfl, hb⟩; refine ⟨_, rfl, ?_⟩; replace HO429 := am (Kd.R_below (rB HO429.out) hb); replace HO436 := am (Kd.R_below (rB HO436.out) hb); replace BK433 := am (blk_below (bB BK433.out) hb); replace HB := am (below_step (sB HB.out) hb); (try clear hb); (try clear hb2); (try clear hk); (try clear hi); obtain ⟨Ao28, co28, eo28⟩ := Kd.R_slice HO436.out; subst eo28) | ((with_reducible refine gate_callee (f := 23) rfl ?_); refine goesL_ (some 29) rfl rfl Try.func23 (by kernel_rfl) rfl #[.slice Ao28 t434.length co28, .int .i64 t439] rfl (by (try simp only [List.map_toArray, List.map_cons, List.map_nil]); first | done | rfl | (simp only [List.length_drop, List.length_take]; rfl)) ?_; (with_reducible refine (laws_contains.calls k _ _ t434 t439 false _ ?side1 ?side2 A19.out).mono ?_); (case side1 => exact cB ((Kd.R_reads' HO436.out).2.2)); (case side2 => exact (Kd.R_reads' HO436.out).2.1); rintro e w' ⟨rfl, ⟨nd, rfl⟩⟩; refine ⟨_, rfl, ?_⟩) | (go_at_call 25; (with_reducible refine (impl_NeverChosen.calls k _ _ t427 t441 _ ?side1 ?side2 A24.out).mono ?_); (case side1 => exact cB ((Kd.R_reads' HO429.out).2.2)); (case side2 => exact (Kd.R_reads' HO429.out).2.1); rintro e w29 ⟨v442, rfl, ho0, hb⟩; have n0_ := am (Kd.R_below (rB HO429.out) hb); have n1_ := am (Kd.R_elder' (rB HO436.out) (Kd.R_base ho0) hb); have n2_ := am (Kd.R_lower (Kd.R_new' ho0 (Kd.R_lt (rB HO436.out))) (below_size (sB HB.out))); have n3_ := am (blk_below (bB BK433.out) hb); have n4_ := am (below_step (sB HB.out) hb); clear HO429; clear HO436; clear BK433; clear HB; have HO429 := n0_; have HO436 := n1_; have HO443 := n2_; have BK433 := n3_; have HB := n4_; clear n0_ n1_ n2_ n3_ n4_; (try clear hb); (try clear hb2); (try clear hk); (try clear hi); (try clear ho0); obtain ⟨Ao30, co30, eo30⟩ := Kd.R_slice HO443.out; subst eo30) | (go_at_call 24; (with_reducible refine (laws_within.calls k _ _ t434 _ _ t441 t444 _ ?side1 ?side2 ?side3 ?side4 A25.out).mono ?_); (case side1 => exact cB ((Kd.R_reads' HO436.out).2.2)); (case side2 => exact (Kd.R_reads' HO436.out).2.1); (case side3 => exact cB ((Kd.R_reads' HO443.out).2.2)); (case side4 => exact (Kd.R_reads' HO443.out).2.1); rintro e w' ⟨rfl, ⟨nd, rfl⟩⟩))
     go_meet
     case rel => exact ⟨_, (!t444), (by first | rfl | (simp; done) | (simp [*]; done)), H', ⟨by first | omega | exact Nat.le_refl _⟩, ⟨by (with_reducible repeat (first | apply Kd.R_alloc | apply Kd.R_drewN | apply Kd.R_drew)); exact HO429.out⟩, ⟨by (with_reducible repeat (first | apply Kd.R_alloc | apply Kd.R_drewN | apply Kd.R_drew)); exact Kd.R_mono HO436.out (fun _ hk => trivial)⟩, ⟨bB BK433.out⟩, ⟨sB HB.out⟩⟩
   case rest =>
    clear HC9
    try clear c1
    try clear c2
    try clear p2
    try clear c3
    try clear c4
    try clear c5
    try clear c8
    try clear c8b0
    try clear c8b1
    try clear c19
    try clear c20
    try clear c21
    try clear c22
    try clear c23
    try clear hcz12_0 hcz12_1 hcz12_2
    try clear hcz21_0 hcz21_1 hcz21_2
    try clear hcz26_0 hcz26_1 hcz26_2
    try clear hfz12_0 hfz12_1 hfz12_2
    try clear hfz21_0 hfz21_1 hfz21_2
    try clear hfz26_0 hfz26_1 hfz26_2
    obtain ⟨kq, x36_8, rfl, HA, HJ8, HO_3, HO_5, BK433, HB⟩ := hcut
    cases kq with
    | zero => exact absurd HA.out (by simp [laws_FnShadowed.j0])
    | succ kj8 =>
     have H := HA.out
     clear HA
     simp only [laws_FnShadowed.j0] at H
     by_cases c31 : x36_8 = true
     ·subst c31
      have H1 : (some false) = some r := by rw [if_pos rfl] at H; exact H
      clear H
      have H := H1
      clear H1
      exact absurd ((Option.some.inj H).trans HRT.out) (by decide)
     ·replace c31 := Bool.eq_false_iff.mpr c31
      subst c31
      have H1 : (laws_FnShadowed.l0 kj8 t427 t434 0 t430 t431 t432) = some r := by rw [if_neg (show ¬ (false = true) by decide)] at H; exact H
      clear H
      have H := H1
      clear H1
      have H' := Aside0.mk H
      clear H
      go_wp2
      go_loopg [6] kj8 (fun kq v6 w' => ∃ (x6_2 : Int), v6 = .int .i64 x6_2 ∧ Aside0 (laws_FnShadowed.l0 kq t427 t434 x6_2 t430 t431 t432 = some r) ∧ Aside0 (kq ≤ kj8) ∧ Aside0 (Kd.R k84 84 w' w.heap.size (fun _ => True) (.slice Ao13 t427.length co13) t427) ∧ Aside0 (Kd.R (Kd.int .i64) 3 w' w.heap.size (fun _ => True) v435 t434) ∧ Aside0 (w'.heap[gb433]? = some (.cells #[.int .i64 t430, .int .i64 t431, .int .i64 t432] 50 (0, 0))) ∧ Aside0 (Below w.heap.size w w'))
      case atStart => exact ⟨(0), (by first | rfl | (simp; done) | (simp [*]; done)), H', ⟨Nat.le_refl _⟩, ⟨by (with_reducible repeat (first | apply Kd.R_alloc | apply Kd.R_drewN | apply Kd.R_drew)); exact HO_3.out⟩, ⟨by (with_reducible repeat (first | apply Kd.R_alloc | apply Kd.R_drewN | apply Kd.R_drew)); exact HO_5.out⟩, ⟨bB BK433.out⟩, ⟨sB HB.out⟩⟩
      case round =>
       clear H'
       try clear c1
       try clear c2
       try clear p2
       try clear c3
       try clear c4
       try clear c5
       try clear c8
       try clear c8b0
       try clear c8b1
       try clear c19
       try clear c20
       try clear c21
       try clear c22
       try clear c23
       try clear c31
       try clear hcz12_0 hcz12_1 hcz12_2
       try clear hcz21_0 hcz21_1 hcz21_2
       try clear hcz26_0 hcz26_1 hcz26_2
       try clear hfz12_0 hfz12_1 hfz12_2
       try clear hfz21_0 hfz21_1 hfz21_2
       try clear hfz26_0 hfz26_1 hfz26_2
       try clear p2
       obtain ⟨x6_2, rfl, HA, HK2, HO_3, HO_5, BK433, HB⟩ := hrel
       cases gk with
       | zero => exact absurd HA.out (by simp [laws_FnShadowed.l0])
       | succ k2 =>
        have H := HA.out
        clear HA
        simp only [laws_FnShadowed.l0] at H
        by_cases c32 : x6_2 < (t427.length : Int)
        ·rw [if_pos c32] at H
         have c32b0 : decide (x6_2 < (t427.length : Int)) = true := decide_eq_true c32
         clear c32
         replace H := Option.bind_eq_some_iff.mp H
         obtain ⟨t445, A330, H⟩ := H
         replace H : ((impl_IsShadowed.f k2 t427 x6_2).bind fun t446 => (if (t445 != t446) = true then (some false) else (laws_FnShadowed.l0 k2 t427 t434 (wrap64 (x6_2 + 1)) t430 t431 t432))) = some r := H
         have A33 := Aside0.mk A330
         clear A330
         replace H := Option.bind_eq_some_iff.mp H
         obtain ⟨t446, A340, H⟩ := H
         replace H : (if (t445 != t446) = true then (some false) else (laws_FnShadowed.l0 k2 t427 t434 (wrap64 (x6_2 + 1)) t430 t431 t432)) = some r := H
         have A34 := Aside0.mk A340
         clear A340
         by_cases c35 : (t445 != t446) = true
         ·rw [if_pos c35] at H
          have c35b0 : (t445 != t446) = true := c35
          (try (have c35b1 : decide (t445 = t446) = false := by simpa using c35))
          (try (have c35b2 : (t445 == t446) = false := by simpa using c35))
          (try (have c35b3 : ¬ (t445 = t446) := by simpa using c35))
          clear c35
          exact absurd ((Option.some.inj H).trans HRT.out) (by decide)
         ·rw [if_neg c35] at H
          have c35b0 : (t445 != t446) = false := by simpa using c35
          (try (have c35b1 : decide (t445 = t446) = true := by simpa using c35))
          (try (have c35b2 : (t445 == t446) = true := by simpa using c35))
          clear c35
          have H' := Aside0.mk H
          clear H
          obtain ⟨Ao36, co36, eo36⟩ := Kd.R_slice HO_5.out
          subst eo36
          go_wp2_with (first | ((with_reducible refine gate_callee (f := 23) rfl ?_); refine goesL_ (some 45) rfl rfl Try.func23 (by kernel_rfl) rfl #[.slice Ao36 t434.length co36, .int .i64 x6_2] rfl (by (try simp only [List.map_toArray, List.map_cons, List.map_nil]); first | done | rfl | (simp only [List.length_drop, List.length_take]; rfl)) ?_; (with_reducible refine (laws_contains.calls k2 _ _ t434 x6_2 t445 _ ?side1 ?side2 A33.out).mono ?_); (case side1 => exact cB ((Kd.R_reads' HO_5.out).2.2)); (case side2 => exact (Kd.R_reads' HO_5.out).2.1); rintro e w' ⟨rfl, ⟨nd, rfl⟩⟩; refine ⟨_, rfl, ?_⟩) | ((with_reducible refine gate_callee (f := 26) rfl ?_); refine goesL_ (some 48) rfl rfl Try.func26 (by kernel_rfl) rfl #[.slice Ao13 t427.length co13, .int .i64 x6_2] rfl (by (try simp only [List.map_toArray, List.map_cons, List.map_nil]); first | done | rfl | (simp only [List.length_drop, List.length_take]; rfl)) ?_; (with_reducible refine (impl_IsShadowed.calls k2 _ _ t427 x6_2 t446 _ ?side1 ?side2 A34.out).mono ?_); (case side1 => exact cB ((Kd.R_reads' HO_3.out).2.2)); (case side2 => exact (Kd.R_reads' HO_3.out).2.1); rintro e w37 ⟨rfl, hb⟩; refine ⟨_, rfl, ?_⟩; replace HO_3 := am (Kd.R_below (rB HO_3.out) hb); replace HO_5 := am (Kd.R_below (rB HO_5.out) hb); replace BK433 := am (blk_below (bB BK433.out) hb); replace HB := am (below_step (sB HB.out) hb); (try clear hb); (try clear hb2); (try clear hk); (try clear hi)))
          go_roundg k2
          case measure => have := HJ8.out; have := HK2.out; omega
          case rel => exact ⟨(wrap64 (x6_2 + 1)), (by first | rfl | (simp; done) | (simp [*]; done)), H', ⟨by have := HJ8.out; have := HK2.out; omega⟩, ⟨by (with_reducible repeat (first | apply Kd.R_alloc | apply Kd.R_drewN | apply Kd.R_drew)); exact HO_3.out⟩, ⟨by (with_reducible repeat (first | apply Kd.R_alloc | apply Kd.R_drewN | apply Kd.R_drew)); exact HO_5.out⟩, ⟨bB BK433.out⟩, ⟨sB HB.out⟩⟩
        ·rw [if_neg c32] at H
         have c32b0 : decide (x6_2 < (t427.length : Int)) = false := decide_eq_false c32
         clear c32
         replace H := Option.bind_eq_some_iff.mp H
         obtain ⟨t447, A380, H⟩ := H
         replace H : ((impl_ClashOf.f k2 t427 t430 t431 t432).bind fun t450 => (if t450 = true then (if (t447.length : Int) < 2 then (some false) else ((impl_ClashCount.f k2 t427 t430).bind fun t451 => (if t451 = 0 then (some false) else ((impl_ClashCount.f k2 t427 t430).bind fun t452 => (some (decide (t452 ≤ 40))))))) else ((impl_ClashCount.f k2 t427 t430).bind fun t453 => (some (decide (t453 ≤ 40)))))) = some r := H
         have A38 := Aside0.mk A380
         clear A380
         replace H := Option.bind_eq_some_iff.mp H
         obtain ⟨t450, A390, H⟩ := H
         replace H : (if t450 = true then (if (t447.length : Int) < 2 then (some false) else ((impl_ClashCount.f k2 t427 t430).bind fun t451 => (if t451 = 0 then (some false) else ((impl_ClashCount.f k2 t427 t430).bind fun t452 => (some (decide (t452 ≤ 40))))))) else ((impl_ClashCount.f k2 t427 t430).bind fun t453 => (some (decide (t453 ≤ 40))))) = some r := H
         have A39 := Aside0.mk A390
         clear A390
         by_cases c40 : t450 = true
         ·subst c40
          have H1 : (if (t447.length : Int) < 2 then (some false) else ((impl_ClashCount.f k2 t427 t430).bind fun t451 => (if t451 = 0 then (some false) else ((impl_ClashCount.f k2 t427 t430).bind fun t452 => (some (decide (t452 ≤ 40))))))) = some r := by rw [if_pos rfl] at H; exact H
          clear H
          have H := H1
          clear H1
          by_cases c41 : (t447.length : Int) < 2
          ·rw [if_pos c41] at H
           have c41b0 : decide ((t447.length : Int) < 2) = true := decide_eq_true c41
           have c41b1 : decide (t447.length < 2) = true := decide_eq_true (by omega)
           clear c41
           exact absurd ((Option.some.inj H).trans HRT.out) (by decide)
          ·rw [if_neg c41] at H
           have c41b0 : decide ((t447.length : Int) < 2) = false := decide_eq_false c41
           have c41b1 : decide (t447.length < 2) = false := decide_eq_false (by omega)
           clear c41
           replace H := Option.bind_eq_some_iff.mp H
           obtain ⟨t451, A420, H⟩ := H
           replace H : (if t451 = 0 then (some false) else ((impl_ClashCount.f k2 t427 t430).bind fun t452 => (some (decide (t452 ≤ 40))))) = some r := H
           have A42 := Aside0.mk A420
           clear A420
           by_cases c43 : t451 = 0
           ·rw [if_pos c43] at H
            have c43b0 : (t451 == 0) = true := beq_iff_eq.mpr c43
            have c43b1 : (t451 != 0) = false := bne_eq_false_iff_eq.mpr c43
            clear c43
            exact absurd ((Option.some.inj H).trans HRT.out) (by decide)
           ·rw [if_neg c43] at H
            have c43b0 : (t451 == 0) = false := beq_eq_false_iff_ne.mpr c43
            have c43b1 : (t451 != 0) = true := bne_iff_ne.mpr c43
            replace H := Option.bind_eq_some_iff.mp H
            obtain ⟨t452, A440, H⟩ := H
            replace H : (some (decide (t452 ≤ 40))) = some r := H
            have A44 := Aside0.mk A440
            clear A440
            obtain rfl := Option.some.inj H
            have hcz45_0 : wr.cell? ⟨gb433, 0, none⟩ = some (.int .i64 t430) := (blk_cell BK433.out 0).trans rfl
            have hcz45_1 : wr.cell? ⟨gb433, 1, none⟩ = some (.int .i64 t431) := (blk_cell BK433.out 1).trans rfl
            have hcz45_2 : wr.cell? ⟨gb433, 2, none⟩ = some (.int .i64 t432) := (blk_cell BK433.out 2).trans rfl
            have hfz45_0 := blk_frozen BK433.out 0
            have hfz45_1 := blk_frozen BK433.out 1
            have hfz45_2 := blk_frozen BK433.out 2
            go_wp2_with (first | ((with_reducible refine gate_callee (f := 27) rfl ?_); refine goesL_ (some 52) rfl rfl Try.func27 (by kernel_rfl) rfl #[.slice Ao13 t427.length co13, .agg #[.int .i64 t430, .int .i64 t431, .int .i64 t432]] rfl (by (try simp only [List.map_toArray, List.map_cons, List.map_nil]); first | done | rfl | (simp only [List.length_drop, List.length_take]; rfl)) ?_; (with_reducible refine (impl_AppliesTo.calls k2 _ _ t427 t430 t431 t432 t447 _ ?side1 ?side2 A38.out).mono ?_); (case side1 => exact cB ((Kd.R_reads' HO_3.out).2.2)); (case side2 => exact (Kd.R_reads' HO_3.out).2.1); rintro e w46 ⟨v448, rfl, ho0, hb⟩; refine ⟨_, rfl, ?_⟩; have n0_ := am (Kd.R_below (rB HO_3.out) hb); have n1_ := am (Kd.R_elder' (rB HO_5.out) (Kd.R_base ho0) hb); have n2_ := am (Kd.R_lower (Kd.R_new' ho0 (Kd.R_lt (rB HO_5.out))) (below_size (sB HB.out))); have n3_ := am (blk_below (bB BK433.out) hb); have n4_ := am (below_step (sB HB.out) hb); clear HO_3; clear HO_5; clear BK433; clear HB; have HO_3 := n0_; have HO_5 := n1_; have HO449 := n2_; have BK433 := n3_; have HB := n4_; clear n0_ n1_ n2_ n3_ n4_; (try clear hb); (try clear hb2); (try clear hk); (try clear hi); (try clear ho0); obtain ⟨hcz47_0, hcz47_1, hcz47_2, hfz47_0, hfz47_1, hfz47_2⟩ := blk3 BK433.out) | ((with_reducible refine gate_callee (f := 28) rfl ?_); refine goesL_ (some 55) rfl rfl Try.func28 (by kernel_rfl) rfl #[.slice Ao13 t427.length co13, .agg #[.int .i64 t430, .int .i64 t431, .int .i64 t432]] rfl (by (try simp only [List.map_toArray, List.map_cons, List.map_nil]); first | done | rfl | (simp only [List.length_drop, List.length_take]; rfl)) ?_; (with_reducible refine (impl_ClashOf.calls k2 _ _ t427 t430 t431 t432 true _ ?side1 ?side2 A39.out).mono ?_); (case side1 => exact cB ((Kd.R_reads' HO_3.out).2.2)); (case side2 => exact (Kd.R_reads' HO_3.out).2.1); rintro e w48 ⟨rfl, hb⟩; refine ⟨_, rfl, ?_⟩; replace HO_3 := am (Kd.R_below (rB HO_3.out) hb); replace HO_5 := am (Kd.R_below (rB HO_5.out) hb); replace HO449 := am (Kd.R_below (rB HO449.out) hb); replace BK433 := am (blk_below (bB BK433.out) hb); replace HB := am (below_step (sB HB.out) hb); (try clear hb); (try clear hb2); (try clear hk); (try clear hi); obtain ⟨Ao49, co49, eo49⟩ := Kd.R_slice HO449.out; subst eo49; obtain ⟨hcz50_0, hcz50_1, hcz50_2, hfz50_0, hfz50_1, hfz50_2⟩ := blk3 BK433.out) | (go_at_call 29; (with_reducible refine (impl_ClashCount.calls k2 _ _ t427 t430 t451 _ ?side1 ?side2 A42.out).mono ?_); (case side1 => exact cB ((Kd.R_reads' HO_3.out).2.2)); (case side2 => exact (Kd.R_reads' HO_3.out).2.1); rintro e w51 ⟨rfl, hb⟩; replace HO_3 := am (Kd.R_below (rB HO_3.out) hb); replace HO_5 := am (Kd.R_below (rB HO_5.out) hb); replace HO449 := am (Kd.R_below (rB HO449.out) hb); replace BK433 := am (blk_below (bB BK433.out) hb); replace HB := am (below_step (sB HB.out) hb); (try clear hb); (try clear hb2); (try clear hk); (try clear hi); obtain ⟨hcz52_0, hcz52_1, hcz52_2, hfz52_0, hfz52_1, hfz52_2⟩ := blk3 BK433.out) | ((with_reducible refine gate_callee (f := 29) rfl ?_); refine goesL_ (some 77) rfl rfl Try.func29 (by kernel_rfl) rfl #[.slice Ao13 t427.length co13, .int .i64 t430] rfl (by (try simp only [List.map_toArray, List.map_cons, List.map_nil]); first | done | rfl | (simp only [List.length_drop, List.length_take]; rfl)) ?_; (with_reducible refine (impl_ClashCount.calls k2 _ _ t427 t430 t452 _ ?side1 ?side2 A44.out).mono ?_); (case side1 => exact cB ((Kd.R_reads' HO_3.out).2.2)); (case side2 => exact (Kd.R_reads' HO_3.out).2.1); rintro e w53 ⟨rfl, hb⟩; refine ⟨_, rfl, ?_⟩; replace HO_3 := am (Kd.R_below (rB HO_3.out) hb); replace HO_5 := am (Kd.R_below (rB HO_5.out) hb); replace HO449 := am (Kd.R_below (rB HO449.out) hb); replace BK433 := am (blk_below (bB BK433.out) hb); replace HB := am (below_step (sB HB.out) hb); (try clear hb); (try clear hb2); (try clear hk); (try clear hi)))
            go_ret
            exact ⟨by first | rfl | (simp [errW_none, errW_some] <;> rfl) | (simp [*, errW_none, errW_some] <;> rfl), sB HB.out⟩
         ·replace c40 := Bool.eq_false_iff.mpr c40
          subst c40
          have H1 : ((impl_ClashCount.f k2 t427 t430).bind fun t453 => (some (decide (t453 ≤ 40)))) = some r := by rw [if_neg (show ¬ (false = true) by decide)] at H; exact H
          clear H
          have H := H1
          clear H1
          replace H := Option.bind_eq_some_iff.mp H
          obtain ⟨t453, A540, H⟩ := H
          replace H : (some (decide (t453 ≤ 40))) = some r := H
          have A54 := Aside0.mk A540
          clear A540
          obtain rfl := Option.some.inj H
          have hcz55_0 : wr.cell? ⟨gb433, 0, none⟩ = some (.int .i64 t430) := (blk_cell BK433.out 0).trans rfl
          have hcz55_1 : wr.cell? ⟨gb433, 1, none⟩ = some (.int .i64 t431) := (blk_cell BK433.out 1).trans rfl
          have hcz55_2 : wr.cell? ⟨gb433, 2, none⟩ = some (.int .i64 t432) := (blk_cell BK433.out 2).trans rfl
          have hfz55_0 := blk_frozen BK433.out 0
          have hfz55_1 := blk_frozen BK433.out 1
          have hfz55_2 := blk_frozen BK433.out 2
          go_wp2_with (first | ((with_reducible refine gate_callee (f := 27) rfl ?_); refine goesL_ (some 52) rfl rfl Try.func27 (by kernel_rfl) rfl #[.slice Ao13 t427.length co13, .agg #[.int .i64 t430, .int .i64 t431, .int .i64 t432]] rfl (by (try simp only [List.map_toArray, List.map_cons, List.map_nil]); first | done | rfl | (simp only [List.length_drop, List.length_take]; rfl)) ?_; (with_reducible refine (impl_AppliesTo.calls k2 _ _ t427 t430 t431 t432 t447 _ ?side1 ?side2 A38.out).mono ?_); (case side1 => exact cB ((Kd.R_reads' HO_3.out).2.2)); (case side2 => exact (Kd.R_reads' HO_3.out).2.1); rintro e w56 ⟨v448, rfl, ho0, hb⟩; refine ⟨_, rfl, ?_⟩; have n0_ := am (Kd.R_below (rB HO_3.out) hb); have n1_ := am (Kd.R_elder' (rB HO_5.out) (Kd.R_base ho0) hb); have n2_ := am (Kd.R_lower (Kd.R_new' ho0 (Kd.R_lt (rB HO_5.out))) (below_size (sB HB.out))); have n3_ := am (blk_below (bB BK433.out) hb); have n4_ := am (below_step (sB HB.out) hb); clear HO_3; clear HO_5; clear BK433; clear HB; have HO_3 := n0_; have HO_5 := n1_; have HO449 := n2_; have BK433 := n3_; have HB := n4_; clear n0_ n1_ n2_ n3_ n4_; (try clear hb); (try clear hb2); (try clear hk); (try clear hi); (try clear ho0); obtain ⟨hcz57_0, hcz57_1, hcz57_2, hfz57_0, hfz57_1, hfz57_2⟩ := blk3 BK433.out) | ((with_reducible refine gate_callee (f := 28) rfl ?_); refine goesL_ (some 55) rfl rfl Try.func28 (by kernel_rfl) rfl #[.slice Ao13 t427.length co13, .agg #[.int .i64 t430, .int .i64 t431, .int .i64 t432]] rfl (by (try simp only [List.map_toArray, List.map_cons, List.map_nil]); first | done | rfl | (simp only [List.length_drop, List.length_take]; rfl)) ?_; (with_reducible refine (impl_ClashOf.calls k2 _ _ t427 t430 t431 t432 false _ ?side1 ?side2 A39.out).mono ?_); (case side1 => exact cB ((Kd.R_reads' HO_3.out).2.2)); (case side2 => exact (Kd.R_reads' HO_3.out).2.1); rintro e w58 ⟨rfl, hb⟩; refine ⟨_, rfl, ?_⟩; replace HO_3 := am (Kd.R_below (rB HO_3.out) hb); replace HO_5 := am (Kd.R_below (rB HO_5.out) hb); replace HO449 := am (Kd.R_below (rB HO449.out) hb); replace BK433 := am (blk_below (bB BK433.out) hb); replace HB := am (below_step (sB HB.out) hb); (try clear hb); (try clear hb2); (try clear hk); (try clear hi); obtain ⟨hcz59_0, hcz59_1, hcz59_2, hfz59_0, hfz59_1, hfz59_2⟩ := blk3 BK433.out) | ((with_reducible refine gate_callee (f := 29) rfl ?_); refine goesL_ (some 77) rfl rfl Try.func29 (by kernel_rfl) rfl #[.slice Ao13 t427.length co13, .int .i64 t430] rfl (by (try simp only [List.map_toArray, List.map_cons, List.map_nil]); first | done | rfl | (simp only [List.length_drop, List.length_take]; rfl)) ?_; (with_reducible refine (impl_ClashCount.calls k2 _ _ t427 t430 t453 _ ?side1 ?side2 A54.out).mono ?_); (case side1 => exact cB ((Kd.R_reads' HO_3.out).2.2)); (case side2 => exact (Kd.R_reads' HO_3.out).2.1); rintro e w60 ⟨rfl, hb⟩; refine ⟨_, rfl, ?_⟩; replace HO_3 := am (Kd.R_below (rB HO_3.out) hb); replace HO_5 := am (Kd.R_below (rB HO_5.out) hb); replace HO449 := am (Kd.R_below (rB HO449.out) hb); replace BK433 := am (blk_below (bB BK433.out) hb); replace HB := am (below_step (sB HB.out) hb); (try clear hb); (try clear hb2); (try clear hk); (try clear hi)))
          go_ret
          exact ⟨by first | rfl | (simp [errW_none, errW_some] <;> rfl) | (simp [*, errW_none, errW_some] <;> rfl), sB HB.out⟩
  ·rw [if_neg c8] at H
   have c8b0 : (t437 == t438) = false := beq_eq_false_iff_ne.mpr c8
   have c8b1 : (t437 != t438) = true := bne_iff_ne.mpr c8
   exact absurd ((Option.some.inj H).trans HRT.out) (by decide)

/-- THE ONE PURE STATEMENT of laws_FnShadowed: yours. -/
def laws_FnShadowed.Pure : Prop := ∀ (l0 : List Int), l0.length ≤ maxLen → l0.length * 1 ≤ 140737488351232 → (∀ x ∈ l0, (Lit.int .u8 x).wf = true) → ∃ k, laws_FnShadowed.f k l0 = some true
theorem laws_FnShadowed.walk (P : laws_FnShadowed.Pure) (a0 : Option Addr) (len0 cap0 : Nat) (z0 : List Int) (w : World) (w0 : (a0 = none ∧ len0 = 0 ∧ cap0 = 0 ∧ z0 = []) ∨ ∃ x, a0 = some x ∧ len0 ≤ cap0 ∧ cap0 ≤ maxLen ∧ z0.length = cap0 ∧ (∀ i, i < z0.length → w.cell? (x.add i) = some (.int .u8 (z0.getD i 0))) ∧ ∀ n ∈ z0, (Lit.int .u8 n).wf = true) (y0 : len0 * 1 ≤ 140737488351232) :
  Calls Try.prog 4 #[.slice a0 len0 cap0] w fun e w' => e = .returned (.bool true) ∧ Below w.heap.size w w' := by
 obtain ⟨l0, rfl, hr0, hm0, hw0, hc0⟩ := ReadsInt.ofRowC w0
 obtain ⟨k, h⟩ := P l0 hm0 y0 hw0
 refine (laws_FnShadowed.calls k _ _ l0 true w (Kd.C_of_reads (d := (0 : Int)) (h1 := fun _ => rfl) hr0) hc0 h rfl).mono ?_
 rintro e w' ⟨rfl, hd⟩
 exact ⟨rfl, hd⟩

end Go.Proofs.Ytilneejgliglhaa.QS
