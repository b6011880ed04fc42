/- Go functions as Lean functions, each with its walk; printed by a program of this session (a scratch copy of print.py that follows nested field addresses and tells a law for the answer true). -/
import Derived.Test.YtilneejgliglhaaQNx0
import Derived.Test.YtilneejgliglhaaQNxM0
namespace Go.Proofs.Ytilneejgliglhaa.QN
open Go.RowKit Go.Proofs.YtilneejgliglhaaW.PrintWords Go.Proofs.YtilneejgliglhaaW.PrintLast Go.Proofs.YtilneejgliglhaaW.PrintMore Go.Proofs.Ytilneejgliglhaa.Short
attribute [local go_sem] max2_int min2_int max_two min_two max_three min_three max_four min_four   -- for this text's walks alone
set_option linter.unusedVariables false
set_option linter.unusedSimpArgs false

/-! ### impl_MatchSite: function 15 -/
def impl_MatchSite.f (a0_0 : Int) (a0_1 : Int) (a1_0 : Int) (a1_1 : Int) : Option (Bool) := (impl_IsPattern.f a0_0 a0_1).bind fun t238 => (if t238 = true then ((impl_IsSite.f a1_0 a1_1).bind fun t239 => (if t239 = true then (if a0_0 = 0 then (if a0_1 = (-1) then (some true) else (some (a0_1 == a1_1))) else (if a0_0 = a1_0 then (if a0_1 = (-1) then (some true) else (some (a0_1 == a1_1))) else (some false))) else (some false))) else (some false))
set_option maxHeartbeats 8000000 in
set_option maxRecDepth 100000 in
theorem impl_MatchSite.calls (a0_0 : Int) (a0_1 : Int) (a1_0 : Int) (a1_1 : Int) (r : Bool) (w : World) (h : impl_MatchSite.f a0_0 a0_1 a1_0 a1_1 = some r) :
  Calls Try.prog 15 #[.agg #[.int .i64 a0_0, .int .i64 a0_1], .agg #[.int .i64 a1_0, .int .i64 a1_1]] w fun e w' => e = .returned (.bool r) ∧ Below w.heap.size w w' := by
 have hu33 := Try.underlying33
 have hu27 := Try.underlying27
 have HB := am (Below.refl w.heap.size w)
 unfold impl_MatchSite.f at h
 have H := h
 clear h
 replace H := bO H
 obtain ⟨t238, A3, H⟩ := H
 by_cases c4 : t238 = true
 ·subst c4
  replace H := hT H
  replace H := bO H
  obtain ⟨t239, A5, H⟩ := H
  by_cases c6 : t239 = true
  ·subst c6
   replace H := hT H
   by_cases c7 : a0_0 = 0
   ·rw [if_pos c7] at H
    have c7b0 : (a0_0 == 0) = true := beq_iff_eq.mpr c7
    have c7b1 : (a0_0 != 0) = false := bne_eq_false_iff_eq.mpr c7
    clear c7
    by_cases c8 : a0_1 = (-1)
    ·rw [if_pos c8] at H
     have c8b0 : (a0_1 == (-1)) = true := beq_iff_eq.mpr c8
     have c8b1 : (a0_1 != (-1)) = false := bne_eq_false_iff_eq.mpr c8
     clear c8
     obtain rfl := Option.some.inj H
     go_enter Try.func15, Try.ntmps15
     go_wp2_with (first | ((with_reducible refine gate_dst (N := 2) rfl ?_); refine bE 2 #[.int .i64 a0_0, .int .i64 a0_1] 33 ?_; intro gb236 hg w9 hbox hb; have q_ := hbx_ (sB HB.out) hg hb; have n0_ := q_.1; have n1_ := am (hbox); have n2_ := q_.2; have n3_ := n2_; clear HB; have HB := n0_; have BK236 := n1_; have GW236 := n2_; have GE236 := n3_; clear n0_ n1_ n2_ n3_ hb hbox hg) | ((with_reducible refine gate_dst (N := 3) rfl ?_); refine bE 3 #[.int .i64 a1_0, .int .i64 a1_1] 27 ?_; intro gb237 hg w10 hbox hb; have n0_ := am (Kb (bB BK236.out) hb); have q_ := hbx_ (sB HB.out) hg hb; have n1_ := q_.1; have n2_ := am (hbox); have n3_ := q_.2; have n4_ := n3_; have n5_ := nL hg (bB BK236.out); have n6_ := nR hg (bB BK236.out); clear BK236; clear HB; have BK236 := n0_; have HB := n1_; have BK237 := n2_; have GW237 := n3_; have GE237 := n4_; have NB236_237 := n5_; have NB237_236 := n6_; clear n0_ n1_ n2_ n3_ n4_ n5_ n6_; clear hb hbox hg; have hnb11 := NB236_237.out; have hnc11 := NB237_236.out; obtain ⟨hcz12_0, hcz12_1, hfz12_0, hfz12_1⟩ := blk2 BK236.out) | ((with_reducible refine gate_callee (f := 44) rfl ?_); refine gL (some 6) Try.func44 #[.agg #[.int .i64 a0_0, .int .i64 a0_1]] ?_; (with_reducible refine (impl_IsPattern.calls a0_0 a0_1 true _ A3.out).mono ?_); rintro e w13 ⟨rfl, hb⟩; refine ⟨_, rfl, ?_⟩; replace BK236 := am (Kb (bB BK236.out) hb); replace BK237 := am (Kb (bB BK237.out) hb); replace HB := am (Kh (sB HB.out) hb); (try clear hb); obtain ⟨hcz14_0, hcz14_1, hfz14_0, hfz14_1⟩ := blk2 BK237.out) | (go_at_call 45; (with_reducible refine (impl_IsSite.calls a1_0 a1_1 true _ A5.out).mono ?_); rintro e w15 ⟨rfl, hb⟩; replace BK236 := am (Kb (bB BK236.out) hb); replace BK237 := am (Kb (bB BK237.out) hb); replace HB := am (Kh (sB HB.out) hb); (try clear hb); obtain ⟨hcz16_0, hcz16_1, hfz16_0, hfz16_1⟩ := blk2 BK236.out))
     go_ret
     exact lf (sB HB.out)
    ·rw [if_neg c8] at H
     have c8b0 : (a0_1 == (-1)) = false := beq_eq_false_iff_ne.mpr c8
     have c8b1 : (a0_1 != (-1)) = true := bne_iff_ne.mpr c8
     obtain rfl := Option.some.inj H
     go_enter Try.func15, Try.ntmps15
     go_wp2_with (first | ((with_reducible refine gate_dst (N := 2) rfl ?_); refine bE 2 #[.int .i64 a0_0, .int .i64 a0_1] 33 ?_; intro gb236 hg w17 hbox hb; have q_ := hbx_ (sB HB.out) hg hb; have n0_ := q_.1; have n1_ := am (hbox); have n2_ := q_.2; have n3_ := n2_; clear HB; have HB := n0_; have BK236 := n1_; have GW236 := n2_; have GE236 := n3_; clear n0_ n1_ n2_ n3_ hb hbox hg) | ((with_reducible refine gate_dst (N := 3) rfl ?_); refine bE 3 #[.int .i64 a1_0, .int .i64 a1_1] 27 ?_; intro gb237 hg w18 hbox hb; have n0_ := am (Kb (bB BK236.out) hb); have q_ := hbx_ (sB HB.out) hg hb; have n1_ := q_.1; have n2_ := am (hbox); have n3_ := q_.2; have n4_ := n3_; have n5_ := nL hg (bB BK236.out); have n6_ := nR hg (bB BK236.out); clear BK236; clear HB; have BK236 := n0_; have HB := n1_; have BK237 := n2_; have GW237 := n3_; have GE237 := n4_; have NB236_237 := n5_; have NB237_236 := n6_; clear n0_ n1_ n2_ n3_ n4_ n5_ n6_; clear hb hbox hg; have hnb19 := NB236_237.out; have hnc19 := NB237_236.out; obtain ⟨hcz20_0, hcz20_1, hfz20_0, hfz20_1⟩ := blk2 BK236.out) | ((with_reducible refine gate_callee (f := 44) rfl ?_); refine gL (some 6) Try.func44 #[.agg #[.int .i64 a0_0, .int .i64 a0_1]] ?_; (with_reducible refine (impl_IsPattern.calls a0_0 a0_1 true _ A3.out).mono ?_); rintro e w21 ⟨rfl, hb⟩; refine ⟨_, rfl, ?_⟩; replace BK236 := am (Kb (bB BK236.out) hb); replace BK237 := am (Kb (bB BK237.out) hb); replace HB := am (Kh (sB HB.out) hb); (try clear hb); obtain ⟨hcz22_0, hcz22_1, hfz22_0, hfz22_1⟩ := blk2 BK237.out) | (go_at_call 45; (with_reducible refine (impl_IsSite.calls a1_0 a1_1 true _ A5.out).mono ?_); rintro e w23 ⟨rfl, hb⟩; replace BK236 := am (Kb (bB BK236.out) hb); replace BK237 := am (Kb (bB BK237.out) hb); replace HB := am (Kh (sB HB.out) hb); (try clear hb); obtain ⟨hcz24_0, hcz24_1, hfz24_0, hfz24_1⟩ := blk2 BK236.out; obtain ⟨hcz25_0, hcz25_1, hfz25_0, hfz25_1⟩ := blk2 BK237.out))
     go_ret
     exact lf (sB HB.out)
   ·rw [if_neg c7] at H
    have c7b0 : (a0_0 == 0) = false := beq_eq_false_iff_ne.mpr c7
    have c7b1 : (a0_0 != 0) = true := bne_iff_ne.mpr c7
    by_cases c26 : a0_0 = a1_0
    ·rw [if_pos c26] at H
     have c26b0 : (a0_0 == a1_0) = true := beq_iff_eq.mpr c26
     have c26b1 : (a0_0 != a1_0) = false := bne_eq_false_iff_eq.mpr c26
     clear c26
     by_cases c27 : a0_1 = (-1)
     ·rw [if_pos c27] at H
      have c27b0 : (a0_1 == (-1)) = true := beq_iff_eq.mpr c27
      have c27b1 : (a0_1 != (-1)) = false := bne_eq_false_iff_eq.mpr c27
      clear c27
      obtain rfl := Option.some.inj H
      go_enter Try.func15, Try.ntmps15
      go_wp2_with (first | ((with_reducible refine gate_dst (N := 2) rfl ?_); refine bE 2 #[.int .i64 a0_0, .int .i64 a0_1] 33 ?_; intro gb236 hg w28 hbox hb; have q_ := hbx_ (sB HB.out) hg hb; have n0_ := q_.1; have n1_ := am (hbox); have n2_ := q_.2; have n3_ := n2_; clear HB; have HB := n0_; have BK236 := n1_; have GW236 := n2_; have GE236 := n3_; clear n0_ n1_ n2_ n3_ hb hbox hg) | ((with_reducible refine gate_dst (N := 3) rfl ?_); refine bE 3 #[.int .i64 a1_0, .int .i64 a1_1] 27 ?_; intro gb237 hg w29 hbox hb; have n0_ := am (Kb (bB BK236.out) hb); have q_ := hbx_ (sB HB.out) hg hb; have n1_ := q_.1; have n2_ := am (hbox); have n3_ := q_.2; have n4_ := n3_; have n5_ := nL hg (bB BK236.out); have n6_ := nR hg (bB BK236.out); clear BK236; clear HB; have BK236 := n0_; have HB := n1_; have BK237 := n2_; have GW237 := n3_; have GE237 := n4_; have NB236_237 := n5_; have NB237_236 := n6_; clear n0_ n1_ n2_ n3_ n4_ n5_ n6_; clear hb hbox hg; have hnb30 := NB236_237.out; have hnc30 := NB237_236.out; obtain ⟨hcz31_0, hcz31_1, hfz31_0, hfz31_1⟩ := blk2 BK236.out) | ((with_reducible refine gate_callee (f := 44) rfl ?_); refine gL (some 6) Try.func44 #[.agg #[.int .i64 a0_0, .int .i64 a0_1]] ?_; (with_reducible refine (impl_IsPattern.calls a0_0 a0_1 true _ A3.out).mono ?_); rintro e w32 ⟨rfl, hb⟩; refine ⟨_, rfl, ?_⟩; replace BK236 := am (Kb (bB BK236.out) hb); replace BK237 := am (Kb (bB BK237.out) hb); replace HB := am (Kh (sB HB.out) hb); (try clear hb); obtain ⟨hcz33_0, hcz33_1, hfz33_0, hfz33_1⟩ := blk2 BK237.out) | (go_at_call 45; (with_reducible refine (impl_IsSite.calls a1_0 a1_1 true _ A5.out).mono ?_); rintro e w34 ⟨rfl, hb⟩; replace BK236 := am (Kb (bB BK236.out) hb); replace BK237 := am (Kb (bB BK237.out) hb); replace HB := am (Kh (sB HB.out) hb); (try clear hb); obtain ⟨hcz35_0, hcz35_1, hfz35_0, hfz35_1⟩ := blk2 BK236.out; obtain ⟨hcz36_0, hcz36_1, hfz36_0, hfz36_1⟩ := blk2 BK237.out))
      go_ret
      exact lf (sB HB.out)
     ·rw [if_neg c27] at H
      have c27b0 : (a0_1 == (-1)) = false := beq_eq_false_iff_ne.mpr c27
      have c27b1 : (a0_1 != (-1)) = true := bne_iff_ne.mpr c27
      obtain rfl := Option.some.inj H
      go_enter Try.func15, Try.ntmps15
      go_wp2_with (first | ((with_reducible refine gate_dst (N := 2) rfl ?_); refine bE 2 #[.int .i64 a0_0, .int .i64 a0_1] 33 ?_; intro gb236 hg w37 hbox hb; have q_ := hbx_ (sB HB.out) hg hb; have n0_ := q_.1; have n1_ := am (hbox); have n2_ := q_.2; have n3_ := n2_; clear HB; have HB := n0_; have BK236 := n1_; have GW236 := n2_; have GE236 := n3_; clear n0_ n1_ n2_ n3_ hb hbox hg) | ((with_reducible refine gate_dst (N := 3) rfl ?_); refine bE 3 #[.int .i64 a1_0, .int .i64 a1_1] 27 ?_; intro gb237 hg w38 hbox hb; have n0_ := am (Kb (bB BK236.out) hb); have q_ := hbx_ (sB HB.out) hg hb; have n1_ := q_.1; have n2_ := am (hbox); have n3_ := q_.2; have n4_ := n3_; have n5_ := nL hg (bB BK236.out); have n6_ := nR hg (bB BK236.out); clear BK236; clear HB; have BK236 := n0_; have HB := n1_; have BK237 := n2_; have GW237 := n3_; have GE237 := n4_; have NB236_237 := n5_; have NB237_236 := n6_; clear n0_ n1_ n2_ n3_ n4_ n5_ n6_; clear hb hbox hg; have hnb39 := NB236_237.out; have hnc39 := NB237_236.out; obtain ⟨hcz40_0, hcz40_1, hfz40_0, hfz40_1⟩ := blk2 BK236.out) | ((with_reducible refine gate_callee (f := 44) rfl ?_); refine gL (some 6) Try.func44 #[.agg #[.int .i64 a0_0, .int .i64 a0_1]] ?_; (with_reducible refine (impl_IsPattern.calls a0_0 a0_1 true _ A3.out).mono ?_); rintro e w41 ⟨rfl, hb⟩; refine ⟨_, rfl, ?_⟩; replace BK236 := am (Kb (bB BK236.out) hb); replace BK237 := am (Kb (bB BK237.out) hb); replace HB := am (Kh (sB HB.out) hb); (try clear hb); obtain ⟨hcz42_0, hcz42_1, hfz42_0, hfz42_1⟩ := blk2 BK237.out) | (go_at_call 45; (with_reducible refine (impl_IsSite.calls a1_0 a1_1 true _ A5.out).mono ?_); rintro e w43 ⟨rfl, hb⟩; replace BK236 := am (Kb (bB BK236.out) hb); replace BK237 := am (Kb (bB BK237.out) hb); replace HB := am (Kh (sB HB.out) hb); (try clear hb); obtain ⟨hcz44_0, hcz44_1, hfz44_0, hfz44_1⟩ := blk2 BK236.out; obtain ⟨hcz45_0, hcz45_1, hfz45_0, hfz45_1⟩ := blk2 BK237.out))
      go_ret
      exact lf (sB HB.out)
    ·rw [if_neg c26] at H
     have c26b0 : (a0_0 == a1_0) = false := beq_eq_false_iff_ne.mpr c26
     have c26b1 : (a0_0 != a1_0) = true := bne_iff_ne.mpr c26
     obtain rfl := Option.some.inj H
     go_enter Try.func15, Try.ntmps15
     go_wp2_with (first | ((with_reducible refine gate_dst (N := 2) rfl ?_); refine bE 2 #[.int .i64 a0_0, .int .i64 a0_1] 33 ?_; intro gb236 hg w46 hbox hb; have q_ := hbx_ (sB HB.out) hg hb; have n0_ := q_.1; have n1_ := am (hbox); have n2_ := q_.2; have n3_ := n2_; clear HB; have HB := n0_; have BK236 := n1_; have GW236 := n2_; have GE236 := n3_; clear n0_ n1_ n2_ n3_ hb hbox hg) | ((with_reducible refine gate_dst (N := 3) rfl ?_); refine bE 3 #[.int .i64 a1_0, .int .i64 a1_1] 27 ?_; intro gb237 hg w47 hbox hb; have n0_ := am (Kb (bB BK236.out) hb); have q_ := hbx_ (sB HB.out) hg hb; have n1_ := q_.1; have n2_ := am (hbox); have n3_ := q_.2; have n4_ := n3_; have n5_ := nL hg (bB BK236.out); have n6_ := nR hg (bB BK236.out); clear BK236; clear HB; have BK236 := n0_; have HB := n1_; have BK237 := n2_; have GW237 := n3_; have GE237 := n4_; have NB236_237 := n5_; have NB237_236 := n6_; clear n0_ n1_ n2_ n3_ n4_ n5_ n6_; clear hb hbox hg; have hnb48 := NB236_237.out; have hnc48 := NB237_236.out; obtain ⟨hcz49_0, hcz49_1, hfz49_0, hfz49_1⟩ := blk2 BK236.out) | ((with_reducible refine gate_callee (f := 44) rfl ?_); refine gL (some 6) Try.func44 #[.agg #[.int .i64 a0_0, .int .i64 a0_1]] ?_; (with_reducible refine (impl_IsPattern.calls a0_0 a0_1 true _ A3.out).mono ?_); rintro e w50 ⟨rfl, hb⟩; refine ⟨_, rfl, ?_⟩; replace BK236 := am (Kb (bB BK236.out) hb); replace BK237 := am (Kb (bB BK237.out) hb); replace HB := am (Kh (sB HB.out) hb); (try clear hb); obtain ⟨hcz51_0, hcz51_1, hfz51_0, hfz51_1⟩ := blk2 BK237.out) | (go_at_call 45; (with_reducible refine (impl_IsSite.calls a1_0 a1_1 true _ A5.out).mono ?_); rintro e w52 ⟨rfl, hb⟩; replace BK236 := am (Kb (bB BK236.out) hb); replace BK237 := am (Kb (bB BK237.out) hb); replace HB := am (Kh (sB HB.out) hb); (try clear hb); obtain ⟨hcz53_0, hcz53_1, hfz53_0, hfz53_1⟩ := blk2 BK236.out; obtain ⟨hcz54_0, hcz54_1, hfz54_0, hfz54_1⟩ := blk2 BK237.out))
     go_ret
     exact lf (sB HB.out)
  ·replace c6 := bF c6
   subst c6
   replace H := hF H
   obtain rfl := Option.some.inj H
   go_enter Try.func15, Try.ntmps15
   go_wp2_with (first | ((with_reducible refine gate_dst (N := 2) rfl ?_); refine bE 2 #[.int .i64 a0_0, .int .i64 a0_1] 33 ?_; intro gb236 hg w55 hbox hb; have q_ := hbx_ (sB HB.out) hg hb; have n0_ := q_.1; have n1_ := am (hbox); have n2_ := q_.2; have n3_ := n2_; clear HB; have HB := n0_; have BK236 := n1_; have GW236 := n2_; have GE236 := n3_; clear n0_ n1_ n2_ n3_ hb hbox hg) | ((with_reducible refine gate_dst (N := 3) rfl ?_); refine bE 3 #[.int .i64 a1_0, .int .i64 a1_1] 27 ?_; intro gb237 hg w56 hbox hb; have n0_ := am (Kb (bB BK236.out) hb); have q_ := hbx_ (sB HB.out) hg hb; have n1_ := q_.1; have n2_ := am (hbox); have n3_ := q_.2; have n4_ := n3_; have n5_ := nL hg (bB BK236.out); have n6_ := nR hg (bB BK236.out); clear BK236; clear HB; have BK236 := n0_; have HB := n1_; have BK237 := n2_; have GW237 := n3_; have GE237 := n4_; have NB236_237 := n5_; have NB237_236 := n6_; clear n0_ n1_ n2_ n3_ n4_ n5_ n6_; clear hb hbox hg; have hnb57 := NB236_237.out; have hnc57 := NB237_236.out; obtain ⟨hcz58_0, hcz58_1, hfz58_0, hfz58_1⟩ := blk2 BK236.out) | ((with_reducible refine gate_callee (f := 44) rfl ?_); refine gL (some 6) Try.func44 #[.agg #[.int .i64 a0_0, .int .i64 a0_1]] ?_; (with_reducible refine (impl_IsPattern.calls a0_0 a0_1 true _ A3.out).mono ?_); rintro e w59 ⟨rfl, hb⟩; refine ⟨_, rfl, ?_⟩; replace BK236 := am (Kb (bB BK236.out) hb); replace BK237 := am (Kb (bB BK237.out) hb); replace HB := am (Kh (sB HB.out) hb); (try clear hb); obtain ⟨hcz60_0, hcz60_1, hfz60_0, hfz60_1⟩ := blk2 BK237.out) | (go_at_call 45; (with_reducible refine (impl_IsSite.calls a1_0 a1_1 false _ A5.out).mono ?_); rintro e w61 ⟨rfl, hb⟩; replace BK236 := am (Kb (bB BK236.out) hb); replace BK237 := am (Kb (bB BK237.out) hb); replace HB := am (Kh (sB HB.out) hb); (try clear hb)))
   go_ret
   exact lf (sB HB.out)
 ·replace c4 := bF c4
  subst c4
  replace H := hF H
  obtain rfl := Option.some.inj H
  go_enter Try.func15, Try.ntmps15
  go_wp2_with (first | ((with_reducible refine gate_dst (N := 2) rfl ?_); refine bE 2 #[.int .i64 a0_0, .int .i64 a0_1] 33 ?_; intro gb236 hg w62 hbox hb; have q_ := hbx_ (sB HB.out) hg hb; have n0_ := q_.1; have n1_ := am (hbox); have n2_ := q_.2; have n3_ := n2_; clear HB; have HB := n0_; have BK236 := n1_; have GW236 := n2_; have GE236 := n3_; clear n0_ n1_ n2_ n3_ hb hbox hg) | ((with_reducible refine gate_dst (N := 3) rfl ?_); refine bE 3 #[.int .i64 a1_0, .int .i64 a1_1] 27 ?_; intro gb237 hg w63 hbox hb; have n0_ := am (Kb (bB BK236.out) hb); have q_ := hbx_ (sB HB.out) hg hb; have n1_ := q_.1; have n2_ := am (hbox); have n3_ := q_.2; have n4_ := n3_; have n5_ := nL hg (bB BK236.out); have n6_ := nR hg (bB BK236.out); clear BK236; clear HB; have BK236 := n0_; have HB := n1_; have BK237 := n2_; have GW237 := n3_; have GE237 := n4_; have NB236_237 := n5_; have NB237_236 := n6_; clear n0_ n1_ n2_ n3_ n4_ n5_ n6_; clear hb hbox hg; have hnb64 := NB236_237.out; have hnc64 := NB237_236.out; obtain ⟨hcz65_0, hcz65_1, hfz65_0, hfz65_1⟩ := blk2 BK236.out) | ((with_reducible refine gate_callee (f := 44) rfl ?_); refine gL (some 6) Try.func44 #[.agg #[.int .i64 a0_0, .int .i64 a0_1]] ?_; (with_reducible refine (impl_IsPattern.calls a0_0 a0_1 false _ A3.out).mono ?_); rintro e w66 ⟨rfl, hb⟩; refine ⟨_, rfl, ?_⟩; replace BK236 := am (Kb (bB BK236.out) hb); replace BK237 := am (Kb (bB BK237.out) hb); replace HB := am (Kh (sB HB.out) hb); (try clear hb)))
  go_ret
  exact lf (sB HB.out)

end Go.Proofs.Ytilneejgliglhaa.QN
