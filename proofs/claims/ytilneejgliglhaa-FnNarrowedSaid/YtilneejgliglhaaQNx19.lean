/- Go functions as Lean functions, each with its walk; printed by a program of this session (a scratch copy of print.py that follows nested field addresses and tells a law for the answer true). -/
import Derived.Test.YtilneejgliglhaaQNx0
import Derived.Test.YtilneejgliglhaaQNx18
namespace Go.Proofs.Ytilneejgliglhaa.QN
open Go.RowKit Go.Proofs.YtilneejgliglhaaW.PrintWords Go.Proofs.YtilneejgliglhaaW.PrintLast Go.Proofs.YtilneejgliglhaaW.PrintMore Go.Proofs.Ytilneejgliglhaa.Short
attribute [local go_sem] max2_int min2_int max_two min_two max_three min_three max_four min_four   -- for this text's walks alone
set_option linter.unusedVariables false
set_option linter.unusedSimpArgs false

/-! ### impl_IsAllowed: function 8 -/
def impl_IsAllowed.l0 : Nat → Int → Int → Int → Bool → List (S35) → Int → Int → Int → Int → Option (Bool)
 | 0, _, _, _, _, _, _, _, _, _ => none
 | k + 1, x1, x3, x4, x5, x15, x16, x17, x250000, x250001 => if x17 < x16 then (if 0 ≤ x17 then (if x17 < (x15.length : Int) then ((impl_Covers.f ((rd_T35 x15 x17).f0) ((rd_T35 x15 x17).f1.f0) ((rd_T35 x15 x17).f1.f1) ((rd_T35 x15 x17).f2) ((rd_T35 x15 x17).f3) ((rd_T35 x15 x17).f4) ((rd_T35 x15 x17).f5) x1 x250000 x250001 x3 x4 x5).bind fun t252 => (if t252 = true then (some true) else (impl_IsAllowed.l0 k x1 x3 x4 x5 x15 x16 (wrap64 (x17 + 1)) x250000 x250001))) else (none)) else (none)) else (some false)
def impl_IsAllowed.f (k : Nat) (l0 : List (S35)) (a1 : Int) (a2_0 : Int) (a2_1 : Int) (a3 : Int) (a4 : Int) (a5 : Bool) : Option (Bool) := impl_IsAllowed.l0 k a1 a3 a4 a5 l0 (l0.length : Int) 0 a2_0 a2_1
set_option maxHeartbeats 8000000 in
set_option maxRecDepth 100000 in
theorem impl_IsAllowed.calls (k : Nat) (A0 : Option Addr) (c0 : Nat) (l0 : List (S35)) (a1 : Int) (a2_0 : Int) (a2_1 : Int) (a3 : Int) (a4 : Int) (a5 : Bool) (r : Bool) (w : World) (hr0 : Kd.C k35 w A0 l0.length l0) (hc0 : l0.length ≤ c0) (h : impl_IsAllowed.f k l0 a1 a2_0 a2_1 a3 a4 a5 = some r) :
  Calls Try.prog 8 #[.slice A0 l0.length c0, .int .i64 a1, .agg #[.int .i64 a2_0, .int .i64 a2_1], .int .i64 a3, .int .i64 a4, .bool a5] w fun e w' => e = .returned (.bool r) ∧ Below w.heap.size w w' := by
 have hu27 := Try.underlying27
 have hu35 := Try.underlying35
 have HR0 := am hr0
 have HC0 := am hc0
 clear hr0 hc0
 have HB := am (Below.refl w.heap.size w)
 unfold impl_IsAllowed.f at h
 have H := h
 clear h
 have H' := am H
 clear H
 go_enter Try.func8, Try.ntmps8
 go_wp2_with (first | ((with_reducible refine gate_dst (N := 8) rfl ?_); refine bE 8 #[.int .i64 a2_0, .int .i64 a2_1] 27 ?_; intro gb249 hg w7 hbox hb; have q_ := hbx_ (sB HB.out) hg hb; have n0_ := q_.1; have n1_ := am (hbox); have n2_ := q_.2; have n3_ := n2_; clear HB; have HB := n0_; have BK249 := n1_; have GW249 := n2_; have GE249 := n3_; clear n0_ n1_ n2_ n3_ hb hbox hg))
 go_loopg [17] k (fun kq v17 w' => ∃ (x17_1 : Int), v17 = .int .i64 x17_1 ∧ Aside0 (impl_IsAllowed.l0 kq a1 a3 a4 a5 l0 (l0.length : Int) x17_1 a2_0 a2_1 = some r) ∧ Aside0 (kq ≤ k) ∧ Aside0 (w'.heap[gb249]? = some (.cells #[.int .i64 a2_0, .int .i64 a2_1] 27 (0, 0))) ∧ Aside0 (Below w.heap.size w w'))
 case atStart => exact ⟨(0), (by first | rfl | (simp; done) | (simp [*]; done)), H', ⟨Nat.le_refl _⟩, ⟨bB BK249.out⟩, ⟨sB HB.out⟩⟩
 case round =>
  clear H'
  try clear p2
  obtain ⟨x17_1, rfl, HA, HK1, BK249, HB⟩ := hrel
  cases gk with
  | zero => exact absurd HA.out (by simp [impl_IsAllowed.l0])
  | succ k1 =>
   have H := HA.out
   clear HA
   simp only [impl_IsAllowed.l0] at H
   by_cases c8 : x17_1 < (l0.length : Int)
   ·rw [if_pos c8] at H
    have c8b0 : decide (x17_1 < (l0.length : Int)) = true := decide_eq_true c8
    clear c8
    by_cases c9 : 0 ≤ x17_1
    ·rw [if_pos c9] at H
     have c9b0 : decide (0 ≤ x17_1) = true := decide_eq_true c9
     clear c9
     by_cases c10 : x17_1 < (l0.length : Int)
     ·rw [if_pos c10] at H
      have c10b0 : decide (x17_1 < (l0.length : Int)) = true := decide_eq_true c10
      clear c10
      replace H := bO H
      obtain ⟨t252, A11, H⟩ := H
      by_cases c12 : t252 = true
      ·subst c12
       replace H := hT H
       obtain rfl := Option.some.inj H
       have p250 : 0 ≤ (x17_1 : Int) := Kp (by first | (with_reducible assumption) | assumption)
       have q250 : x17_1 < (l0.length : Int) := Kp (by first | (with_reducible assumption) | assumption)
       obtain ⟨ad250, e250, hx250_0, hx250_1, hx250_2, hx250_3, hx250_4, hx250_5, hx250_6⟩ := at_T35 HR0.out x17_1 p250 q250
       cases e250
       replace hx250_0 := hc_ HB hx250_0
       replace hx250_1 := hc_ HB hx250_1
       replace hx250_2 := hc_ HB hx250_2
       replace hx250_3 := hc_ HB hx250_3
       replace hx250_4 := hc_ HB hx250_4
       replace hx250_5 := hc_ HB hx250_5
       replace hx250_6 := hc_ HB hx250_6
       replace p250 := eq_true p250
       replace q250 := eq_true q250
       go_wp2_with (first | ((with_reducible refine gate_dst (N := 14) rfl ?_); refine bE 14 #[.int .i64 0, .int .i64 0, .int .i64 0, .int .i64 0, .int .i64 0, .int .i64 0, .bool false] 35 ?_; intro gb251 hg w13 hbox hb; have n0_ := am (Kb (bB BK249.out) hb); have q_ := hbx_ (sB HB.out) hg hb; have n1_ := q_.1; have n2_ := am (hbox); have n3_ := q_.2; have n4_ := n3_; have n5_ := nL hg (bB BK249.out); have n6_ := nR hg (bB BK249.out); clear BK249; clear HB; have BK249 := n0_; have HB := n1_; have BK251 := n2_; have GW251 := n3_; have GE251 := n4_; have NB249_251 := n5_; have NB251_249 := n6_; clear n0_ n1_ n2_ n3_ n4_ n5_ n6_; clear hb hbox hg; have hnb14 := NB251_249.out; have hnc14 := NB249_251.out; obtain ⟨hcz15_0, hcz15_1, hcz15_2, hcz15_3, hcz15_4, hcz15_5, hcz15_6, hfz15_0, hfz15_1, hfz15_2, hfz15_3, hfz15_4, hfz15_5, hfz15_6⟩ := blk7 BK251.out; obtain ⟨hcz16_0, hcz16_1, hfz16_0, hfz16_1⟩ := blk2 BK249.out) | ((with_reducible refine gate_callee (f := 14) rfl ?_); refine gL (some 27) Try.func14 #[.agg #[.int .i64 ((rd_T35 l0 x17_1).f0), .int .i64 ((rd_T35 l0 x17_1).f1.f0), .int .i64 ((rd_T35 l0 x17_1).f1.f1), .int .i64 ((rd_T35 l0 x17_1).f2), .int .i64 ((rd_T35 l0 x17_1).f3), .int .i64 ((rd_T35 l0 x17_1).f4), .bool ((rd_T35 l0 x17_1).f5)], .int .i64 a1, .agg #[.int .i64 a2_0, .int .i64 a2_1], .int .i64 a3, .int .i64 a4, .bool a5] ?_; (with_reducible refine (impl_Covers.calls ((rd_T35 l0 x17_1).f0) ((rd_T35 l0 x17_1).f1.f0) ((rd_T35 l0 x17_1).f1.f1) ((rd_T35 l0 x17_1).f2) ((rd_T35 l0 x17_1).f3) ((rd_T35 l0 x17_1).f4) ((rd_T35 l0 x17_1).f5) a1 a2_0 a2_1 a3 a4 a5 true _ A11.out).mono ?_); rintro e w17 ⟨rfl, hb⟩; refine ⟨_, rfl, ?_⟩; replace BK249 := am (Kb (fB NB249_251.out BK249.out) hb); replace BK251 := am (Kb (g := gb251) (o := .cells #[.int .i64 ((rd_T35 l0 x17_1).f0), .int .i64 ((rd_T35 l0 x17_1).f1.f0), .int .i64 ((rd_T35 l0 x17_1).f1.f1), .int .i64 ((rd_T35 l0 x17_1).f2), .int .i64 ((rd_T35 l0 x17_1).f3), .int .i64 ((rd_T35 l0 x17_1).f4), .bool ((rd_T35 l0 x17_1).f5)] 35 (0, 0)) (by refine bB ?_; refine Kg (cs := #[.int .i64 ((rd_T35 l0 x17_1).f0), .int .i64 ((rd_T35 l0 x17_1).f1.f0), .int .i64 ((rd_T35 l0 x17_1).f1.f1), .int .i64 ((rd_T35 l0 x17_1).f2), .int .i64 ((rd_T35 l0 x17_1).f3), .int .i64 ((rd_T35 l0 x17_1).f4), .bool false]) ?_ 6 _ rfl; refine bB ?_; refine Kg (cs := #[.int .i64 ((rd_T35 l0 x17_1).f0), .int .i64 ((rd_T35 l0 x17_1).f1.f0), .int .i64 ((rd_T35 l0 x17_1).f1.f1), .int .i64 ((rd_T35 l0 x17_1).f2), .int .i64 ((rd_T35 l0 x17_1).f3), .int .i64 0, .bool false]) ?_ 5 _ rfl; refine bB ?_; refine Kg (cs := #[.int .i64 ((rd_T35 l0 x17_1).f0), .int .i64 ((rd_T35 l0 x17_1).f1.f0), .int .i64 ((rd_T35 l0 x17_1).f1.f1), .int .i64 ((rd_T35 l0 x17_1).f2), .int .i64 0, .int .i64 0, .bool false]) ?_ 4 _ rfl; refine bB ?_; refine Kg (cs := #[.int .i64 ((rd_T35 l0 x17_1).f0), .int .i64 ((rd_T35 l0 x17_1).f1.f0), .int .i64 ((rd_T35 l0 x17_1).f1.f1), .int .i64 0, .int .i64 0, .int .i64 0, .bool false]) ?_ 3 _ rfl; refine bB ?_; refine Kg (cs := #[.int .i64 ((rd_T35 l0 x17_1).f0), .int .i64 ((rd_T35 l0 x17_1).f1.f0), .int .i64 0, .int .i64 0, .int .i64 0, .int .i64 0, .bool false]) ?_ 2 _ rfl; refine bB ?_; refine Kg (cs := #[.int .i64 ((rd_T35 l0 x17_1).f0), .int .i64 0, .int .i64 0, .int .i64 0, .int .i64 0, .int .i64 0, .bool false]) ?_ 1 _ rfl; refine bB ?_; refine Kg (cs := #[.int .i64 0, .int .i64 0, .int .i64 0, .int .i64 0, .int .i64 0, .int .i64 0, .bool false]) ?_ 0 _ rfl; refine bB ?_; exact BK251.out) hb); replace HB := am (Kh (sB HB.out) hb); (try clear hb)))
       go_ret
       exact lf (sB HB.out)
      ·replace c12 := bF c12
       subst c12
       replace H := hF H
       have H' := am H
       clear H
       have p250 : 0 ≤ (x17_1 : Int) := Kp (by first | (with_reducible assumption) | assumption)
       have q250 : x17_1 < (l0.length : Int) := Kp (by first | (with_reducible assumption) | assumption)
       obtain ⟨ad250, e250, hx250_0, hx250_1, hx250_2, hx250_3, hx250_4, hx250_5, hx250_6⟩ := at_T35 HR0.out x17_1 p250 q250
       cases e250
       replace hx250_0 := hc_ HB hx250_0
       replace hx250_1 := hc_ HB hx250_1
       replace hx250_2 := hc_ HB hx250_2
       replace hx250_3 := hc_ HB hx250_3
       replace hx250_4 := hc_ HB hx250_4
       replace hx250_5 := hc_ HB hx250_5
       replace hx250_6 := hc_ HB hx250_6
       replace p250 := eq_true p250
       replace q250 := eq_true q250
       go_wp2_with (first | ((with_reducible refine gate_dst (N := 14) rfl ?_); refine bE 14 #[.int .i64 0, .int .i64 0, .int .i64 0, .int .i64 0, .int .i64 0, .int .i64 0, .bool false] 35 ?_; intro gb251 hg w18 hbox hb; have n0_ := am (Kb (bB BK249.out) hb); have q_ := hbx_ (sB HB.out) hg hb; have n1_ := q_.1; have n2_ := am (hbox); have n3_ := q_.2; have n4_ := n3_; have n5_ := nL hg (bB BK249.out); have n6_ := nR hg (bB BK249.out); clear BK249; clear HB; have BK249 := n0_; have HB := n1_; have BK251 := n2_; have GW251 := n3_; have GE251 := n4_; have NB249_251 := n5_; have NB251_249 := n6_; clear n0_ n1_ n2_ n3_ n4_ n5_ n6_; clear hb hbox hg; have hnb19 := NB251_249.out; have hnc19 := NB249_251.out; obtain ⟨hcz20_0, hcz20_1, hcz20_2, hcz20_3, hcz20_4, hcz20_5, hcz20_6, hfz20_0, hfz20_1, hfz20_2, hfz20_3, hfz20_4, hfz20_5, hfz20_6⟩ := blk7 BK251.out; obtain ⟨hcz21_0, hcz21_1, hfz21_0, hfz21_1⟩ := blk2 BK249.out) | ((with_reducible refine gate_callee (f := 14) rfl ?_); refine gL (some 27) Try.func14 #[.agg #[.int .i64 ((rd_T35 l0 x17_1).f0), .int .i64 ((rd_T35 l0 x17_1).f1.f0), .int .i64 ((rd_T35 l0 x17_1).f1.f1), .int .i64 ((rd_T35 l0 x17_1).f2), .int .i64 ((rd_T35 l0 x17_1).f3), .int .i64 ((rd_T35 l0 x17_1).f4), .bool ((rd_T35 l0 x17_1).f5)], .int .i64 a1, .agg #[.int .i64 a2_0, .int .i64 a2_1], .int .i64 a3, .int .i64 a4, .bool a5] ?_; (with_reducible refine (impl_Covers.calls ((rd_T35 l0 x17_1).f0) ((rd_T35 l0 x17_1).f1.f0) ((rd_T35 l0 x17_1).f1.f1) ((rd_T35 l0 x17_1).f2) ((rd_T35 l0 x17_1).f3) ((rd_T35 l0 x17_1).f4) ((rd_T35 l0 x17_1).f5) a1 a2_0 a2_1 a3 a4 a5 false _ A11.out).mono ?_); rintro e w22 ⟨rfl, hb⟩; refine ⟨_, rfl, ?_⟩; replace BK249 := am (Kb (fB NB249_251.out BK249.out) hb); replace BK251 := am (Kb (g := gb251) (o := .cells #[.int .i64 ((rd_T35 l0 x17_1).f0), .int .i64 ((rd_T35 l0 x17_1).f1.f0), .int .i64 ((rd_T35 l0 x17_1).f1.f1), .int .i64 ((rd_T35 l0 x17_1).f2), .int .i64 ((rd_T35 l0 x17_1).f3), .int .i64 ((rd_T35 l0 x17_1).f4), .bool ((rd_T35 l0 x17_1).f5)] 35 (0, 0)) (by refine bB ?_; refine Kg (cs := #[.int .i64 ((rd_T35 l0 x17_1).f0), .int .i64 ((rd_T35 l0 x17_1).f1.f0), .int .i64 ((rd_T35 l0 x17_1).f1.f1), .int .i64 ((rd_T35 l0 x17_1).f2), .int .i64 ((rd_T35 l0 x17_1).f3), .int .i64 ((rd_T35 l0 x17_1).f4), .bool false]) ?_ 6 _ rfl; refine bB ?_; refine Kg (cs := #[.int .i64 ((rd_T35 l0 x17_1).f0), .int .i64 ((rd_T35 l0 x17_1).f1.f0), .int .i64 ((rd_T35 l0 x17_1).f1.f1), .int .i64 ((rd_T35 l0 x17_1).f2), .int .i64 ((rd_T35 l0 x17_1).f3), .int .i64 0, .bool false]) ?_ 5 _ rfl; refine bB ?_; refine Kg (cs := #[.int .i64 ((rd_T35 l0 x17_1).f0), .int .i64 ((rd_T35 l0 x17_1).f1.f0), .int .i64 ((rd_T35 l0 x17_1).f1.f1), .int .i64 ((rd_T35 l0 x17_1).f2), .int .i64 0, .int .i64 0, .bool false]) ?_ 4 _ rfl; refine bB ?_; refine Kg (cs := #[.int .i64 ((rd_T35 l0 x17_1).f0), .int .i64 ((rd_T35 l0 x17_1).f1.f0), .int .i64 ((rd_T35 l0 x17_1).f1.f1), .int .i64 0, .int .i64 0, .int .i64 0, .bool false]) ?_ 3 _ rfl; refine bB ?_; refine Kg (cs := #[.int .i64 ((rd_T35 l0 x17_1).f0), .int .i64 ((rd_T35 l0 x17_1).f1.f0), .int .i64 0, .int .i64 0, .int .i64 0, .int .i64 0, .bool false]) ?_ 2 _ rfl; refine bB ?_; refine Kg (cs := #[.int .i64 ((rd_T35 l0 x17_1).f0), .int .i64 0, .int .i64 0, .int .i64 0, .int .i64 0, .int .i64 0, .bool false]) ?_ 1 _ rfl; refine bB ?_; refine Kg (cs := #[.int .i64 0, .int .i64 0, .int .i64 0, .int .i64 0, .int .i64 0, .int .i64 0, .bool false]) ?_ 0 _ rfl; refine bB ?_; exact BK251.out) hb); replace HB := am (Kh (sB HB.out) hb); (try clear hb)))
       go_roundg k1
       case measure => have := HK1.out; omega
       case rel => exact ⟨(wrap64 (x17_1 + 1)), (by first | rfl | (simp; done) | (simp [*]; done)), H', ⟨by have := HK1.out; omega⟩, ⟨bB BK249.out⟩, ⟨sB HB.out⟩⟩
     ·rw [if_neg c10] at H
      exact absurd H (by simp)
    ·rw [if_neg c9] at H
     exact absurd H (by simp)
   ·rw [if_neg c8] at H
    have c8b0 : decide (x17_1 < (l0.length : Int)) = false := decide_eq_false c8
    clear c8
    obtain rfl := Option.some.inj H
    go_wp2
    go_ret
    exact lf (sB HB.out)

end Go.Proofs.Ytilneejgliglhaa.QN
