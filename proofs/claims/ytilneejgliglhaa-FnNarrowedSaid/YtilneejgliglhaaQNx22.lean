/- Go functions as Lean functions, each with its walk; printed by a program of this session (a scratch copy of print.py that follows nested field addresses and tells a law for the answer true). -/
import Derived.Test.YtilneejgliglhaaQNx0
import Derived.Test.YtilneejgliglhaaQNx19
import Derived.Test.YtilneejgliglhaaQNx21
namespace Go.Proofs.Ytilneejgliglhaa.QN
open Go.RowKit Go.Proofs.YtilneejgliglhaaW.PrintWords Go.Proofs.YtilneejgliglhaaW.PrintLast Go.Proofs.YtilneejgliglhaaW.PrintMore Go.Proofs.Ytilneejgliglhaa.Short
attribute [local go_sem] max2_int min2_int max_two min_two max_three min_three max_four min_four   -- for this text's walks alone
set_option linter.unusedVariables false
set_option linter.unusedSimpArgs false

/-! ### impl_MayDo: function 7 -/
def impl_MayDo.f (k : Nat) (l0 : List (S35)) (l1 : List (S70)) (a2 : Int) (a3_0 : Int) (a3_1 : Int) (a4 : Int) (a5 : Int) (a6 : Bool) : Option (Bool) := (impl_IsAllowed.f k l0 a2 a3_0 a3_1 a4 a5 a6).bind fun t266 => (if t266 = true then ((impl_IsDenied.f k l1 a2 a3_0 a3_1 a4).bind fun t267 => (some (!t267))) else (some false))
set_option maxHeartbeats 8000000 in
set_option maxRecDepth 100000 in
theorem impl_MayDo.calls (k : Nat) (A0 : Option Addr) (c0 : Nat) (l0 : List (S35)) (A1 : Option Addr) (c1 : Nat) (l1 : List (S70)) (a2 : Int) (a3_0 : Int) (a3_1 : Int) (a4 : Int) (a5 : Int) (a6 : Bool) (r : Bool) (w : World) (hr0 : Kd.C k35 w A0 l0.length l0) (hc0 : l0.length ≤ c0) (hr1 : Kd.C k70 w A1 l1.length l1) (hc1 : l1.length ≤ c1) (h : impl_MayDo.f k l0 l1 a2 a3_0 a3_1 a4 a5 a6 = some r) :
  Calls Try.prog 7 #[.slice A0 l0.length c0, .slice A1 l1.length c1, .int .i64 a2, .agg #[.int .i64 a3_0, .int .i64 a3_1], .int .i64 a4, .int .i64 a5, .bool a6] w fun e w' => e = .returned (.bool r) ∧ Below w.heap.size w w' := by
 have hu27 := Try.underlying27
 have HR0 := am hr0
 have HC0 := am hc0
 clear hr0 hc0
 have HR1 := am hr1
 have HC1 := am hc1
 clear hr1 hc1
 have HB := am (Below.refl w.heap.size w)
 unfold impl_MayDo.f at h
 have H := h
 clear h
 replace H := bO H
 obtain ⟨t266, A8, H⟩ := H
 by_cases c9 : t266 = true
 ·subst c9
  replace H := hT H
  replace H := bO H
  obtain ⟨t267, A10, H⟩ := H
  obtain rfl := Option.some.inj H
  go_enter Try.func7, Try.ntmps7
  go_wp2_with (first | ((with_reducible refine gate_dst (N := 10) rfl ?_); refine bE 10 #[.int .i64 a3_0, .int .i64 a3_1] 27 ?_; intro gb265 hg w11 hbox hb; have q_ := hbx_ (sB HB.out) hg hb; have n0_ := q_.1; have n1_ := am (hbox); have n2_ := q_.2; have n3_ := n2_; clear HB; have HB := n0_; have BK265 := n1_; have GW265 := n2_; have GE265 := n3_; clear n0_ n1_ n2_ n3_ hb hbox hg; obtain ⟨hcz12_0, hcz12_1, hfz12_0, hfz12_1⟩ := blk2 BK265.out) | ((with_reducible refine gate_callee (f := 8) rfl ?_); refine gL (some 21) Try.func8 #[.slice A0 l0.length c0, .int .i64 a2, .agg #[.int .i64 a3_0, .int .i64 a3_1], .int .i64 a4, .int .i64 a5, .bool a6] ?_; (with_reducible refine (impl_IsAllowed.calls k _ _ l0 a2 a3_0 a3_1 a4 a5 a6 true _ ?side1 ?side2 A8.out).mono ?_); (case side1 => exact cB ((Kd.C_below HR0.out HB.out))); (case side2 => exact HC0.out); rintro e w13 ⟨rfl, hb⟩; refine ⟨_, rfl, ?_⟩; replace BK265 := am (Kb (bB BK265.out) hb); replace HB := am (Kh (sB HB.out) hb); (try clear hb); obtain ⟨hcz14_0, hcz14_1, hfz14_0, hfz14_1⟩ := blk2 BK265.out) | (go_at_call 10; (with_reducible refine (impl_IsDenied.calls k _ _ l1 a2 a3_0 a3_1 a4 t267 _ ?side1 ?side2 A10.out).mono ?_); (case side1 => exact cB ((Kd.C_below HR1.out HB.out))); (case side2 => exact HC1.out); rintro e w15 ⟨rfl, hb⟩; replace BK265 := am (Kb (bB BK265.out) hb); replace HB := am (Kh (sB HB.out) hb); (try clear hb)))
  go_ret
  exact lf (sB HB.out)
 ·replace c9 := bF c9
  subst c9
  replace H := hF H
  obtain rfl := Option.some.inj H
  go_enter Try.func7, Try.ntmps7
  go_wp2_with (first | ((with_reducible refine gate_dst (N := 10) rfl ?_); refine bE 10 #[.int .i64 a3_0, .int .i64 a3_1] 27 ?_; intro gb265 hg w16 hbox hb; have q_ := hbx_ (sB HB.out) hg hb; have n0_ := q_.1; have n1_ := am (hbox); have n2_ := q_.2; have n3_ := n2_; clear HB; have HB := n0_; have BK265 := n1_; have GW265 := n2_; have GE265 := n3_; clear n0_ n1_ n2_ n3_ hb hbox hg; obtain ⟨hcz17_0, hcz17_1, hfz17_0, hfz17_1⟩ := blk2 BK265.out) | ((with_reducible refine gate_callee (f := 8) rfl ?_); refine gL (some 21) Try.func8 #[.slice A0 l0.length c0, .int .i64 a2, .agg #[.int .i64 a3_0, .int .i64 a3_1], .int .i64 a4, .int .i64 a5, .bool a6] ?_; (with_reducible refine (impl_IsAllowed.calls k _ _ l0 a2 a3_0 a3_1 a4 a5 a6 false _ ?side1 ?side2 A8.out).mono ?_); (case side1 => exact cB ((Kd.C_below HR0.out HB.out))); (case side2 => exact HC0.out); rintro e w18 ⟨rfl, hb⟩; refine ⟨_, rfl, ?_⟩; replace BK265 := am (Kb (bB BK265.out) hb); replace HB := am (Kh (sB HB.out) hb); (try clear hb)))
  go_ret
  exact lf (sB HB.out)

end Go.Proofs.Ytilneejgliglhaa.QN
