/- Go functions as Lean functions, each with its walk; printed by a program of this session (a scratch copy of print.py that follows nested field addresses and tells a law for the answer true). -/
import Derived.Test.YtilneejgliglhaaQNx0
import Derived.Test.YtilneejgliglhaaQNx16
import Derived.Test.YtilneejgliglhaaQNxM0
namespace Go.Proofs.Ytilneejgliglhaa.QN
open Go.RowKit Go.Proofs.YtilneejgliglhaaW.PrintWords Go.Proofs.YtilneejgliglhaaW.PrintLast Go.Proofs.YtilneejgliglhaaW.PrintMore Go.Proofs.Ytilneejgliglhaa.Short
attribute [local go_sem] max2_int min2_int max_two min_two max_three min_three max_four min_four   -- for this text's walks alone
set_option linter.unusedVariables false
set_option linter.unusedSimpArgs false

/-! ### impl_IsDenied: function 10 -/
def impl_IsDenied.l0 : Nat → Int → Int → List (S70) → Int → Int → Int → Int → Option (Bool)
 | 0, _, _, _, _, _, _, _ => none
 | k + 1, x1, x3, x11, x12, x13, x258000, x258001 => if x13 < x12 then (if 0 ≤ x13 then (if x13 < (x11.length : Int) then ((impl_IsLimit.f ((rd_T70 x11 x13).f0) ((rd_T70 x11 x13).f1.f0) ((rd_T70 x11 x13).f1.f1) ((rd_T70 x11 x13).f2)).bind fun t260 => (if t260 = true then (if ((rd_T70 x11 x13).f0) = 0 then (if ((rd_T70 x11 x13).f2) = 0 then ((impl_MatchSite.f ((rd_T70 x11 x13).f1.f0) ((rd_T70 x11 x13).f1.f1) x258000 x258001).bind fun t261 => (if t261 = true then (some true) else (impl_IsDenied.l0 k x1 x3 x11 x12 (wrap64 (x13 + 1)) x258000 x258001))) else (if ((rd_T70 x11 x13).f2) = x3 then ((impl_MatchSite.f ((rd_T70 x11 x13).f1.f0) ((rd_T70 x11 x13).f1.f1) x258000 x258001).bind fun t262 => (if t262 = true then (some true) else (impl_IsDenied.l0 k x1 x3 x11 x12 (wrap64 (x13 + 1)) x258000 x258001))) else (impl_IsDenied.l0 k x1 x3 x11 x12 (wrap64 (x13 + 1)) x258000 x258001))) else (if ((rd_T70 x11 x13).f0) = x1 then (if ((rd_T70 x11 x13).f2) = 0 then ((impl_MatchSite.f ((rd_T70 x11 x13).f1.f0) ((rd_T70 x11 x13).f1.f1) x258000 x258001).bind fun t263 => (if t263 = true then (some true) else (impl_IsDenied.l0 k x1 x3 x11 x12 (wrap64 (x13 + 1)) x258000 x258001))) else (if ((rd_T70 x11 x13).f2) = x3 then ((impl_MatchSite.f ((rd_T70 x11 x13).f1.f0) ((rd_T70 x11 x13).f1.f1) x258000 x258001).bind fun t264 => (if t264 = true then (some true) else (impl_IsDenied.l0 k x1 x3 x11 x12 (wrap64 (x13 + 1)) x258000 x258001))) else (impl_IsDenied.l0 k x1 x3 x11 x12 (wrap64 (x13 + 1)) x258000 x258001))) else (impl_IsDenied.l0 k x1 x3 x11 x12 (wrap64 (x13 + 1)) x258000 x258001))) else (impl_IsDenied.l0 k x1 x3 x11 x12 (wrap64 (x13 + 1)) x258000 x258001))) else (none)) else (none)) else (some false)
def impl_IsDenied.f (k : Nat) (l0 : List (S70)) (a1 : Int) (a2_0 : Int) (a2_1 : Int) (a3 : Int) : Option (Bool) := impl_IsDenied.l0 k a1 a3 l0 (l0.length : Int) 0 a2_0 a2_1
set_option maxHeartbeats 8000000 in
set_option maxRecDepth 100000 in
theorem impl_IsDenied.calls (k : Nat) (A0 : Option Addr) (c0 : Nat) (l0 : List (S70)) (a1 : Int) (a2_0 : Int) (a2_1 : Int) (a3 : Int) (r : Bool) (w : World) (hr0 : Kd.C k70 w A0 l0.length l0) (hc0 : l0.length ≤ c0) (h : impl_IsDenied.f k l0 a1 a2_0 a2_1 a3 = some r) :
  Calls Try.prog 10 #[.slice A0 l0.length c0, .int .i64 a1, .agg #[.int .i64 a2_0, .int .i64 a2_1], .int .i64 a3] w fun e w' => e = .returned (.bool r) ∧ Below w.heap.size w w' := by
 have hu27 := Try.underlying27
 have hu70 := Try.underlying70
 have hu33 := Try.underlying33
 have HR0 := am hr0
 have HC0 := am hc0
 clear hr0 hc0
 have HB := am (Below.refl w.heap.size w)
 unfold impl_IsDenied.f at h
 have H := h
 clear h
 have H' := am H
 clear H
 go_enter Try.func10, Try.ntmps10
 go_wp2_with (first | ((with_reducible refine gate_dst (N := 6) rfl ?_); refine bE 6 #[.int .i64 a2_0, .int .i64 a2_1] 27 ?_; intro gb257 hg w5 hbox hb; have q_ := hbx_ (sB HB.out) hg hb; have n0_ := q_.1; have n1_ := am (hbox); have n2_ := q_.2; have n3_ := n2_; clear HB; have HB := n0_; have BK257 := n1_; have GW257 := n2_; have GE257 := n3_; clear n0_ n1_ n2_ n3_ hb hbox hg))
 go_loopg [13] k (fun kq v13 w' => ∃ (x13_1 : Int), v13 = .int .i64 x13_1 ∧ Aside0 (impl_IsDenied.l0 kq a1 a3 l0 (l0.length : Int) x13_1 a2_0 a2_1 = some r) ∧ Aside0 (kq ≤ k) ∧ Aside0 (w'.heap[gb257]? = some (.cells #[.int .i64 a2_0, .int .i64 a2_1] 27 (0, 0))) ∧ Aside0 (Below w.heap.size w w'))
 case atStart => exact ⟨(0), (by first | rfl | (simp; done) | (simp [*]; done)), H', ⟨Nat.le_refl _⟩, ⟨bB BK257.out⟩, ⟨sB HB.out⟩⟩
 case round =>
  clear H'
  try clear c1
  try clear p2
  obtain ⟨x13_1, rfl, HA, HK1, BK257, HB⟩ := hrel
  cases gk with
  | zero => exact absurd HA.out (by simp [impl_IsDenied.l0])
  | succ k1 =>
   have H := HA.out
   clear HA
   simp only [impl_IsDenied.l0] at H
   by_cases c6 : x13_1 < (l0.length : Int)
   ·rw [if_pos c6] at H
    have c6b0 : decide (x13_1 < (l0.length : Int)) = true := decide_eq_true c6
    clear c6
    by_cases c7 : 0 ≤ x13_1
    ·rw [if_pos c7] at H
     have c7b0 : decide (0 ≤ x13_1) = true := decide_eq_true c7
     clear c7
     by_cases c8 : x13_1 < (l0.length : Int)
     ·rw [if_pos c8] at H
      have c8b0 : decide (x13_1 < (l0.length : Int)) = true := decide_eq_true c8
      clear c8
      replace H := bO H
      obtain ⟨t260, A9, H⟩ := H
      by_cases c10 : t260 = true
      ·subst c10
       replace H := hT H
       by_cases c11 : ((rd_T70 l0 x13_1).f0) = 0
       ·rw [if_pos c11] at H
        have c11b0 : (((rd_T70 l0 x13_1).f0) == 0) = true := beq_iff_eq.mpr c11
        have c11b1 : (((rd_T70 l0 x13_1).f0) != 0) = false := bne_eq_false_iff_eq.mpr c11
        clear c11
        by_cases c12 : ((rd_T70 l0 x13_1).f2) = 0
        ·rw [if_pos c12] at H
         have c12b0 : (((rd_T70 l0 x13_1).f2) == 0) = true := beq_iff_eq.mpr c12
         have c12b1 : (((rd_T70 l0 x13_1).f2) != 0) = false := bne_eq_false_iff_eq.mpr c12
         clear c12
         replace H := bO H
         obtain ⟨t261, A13, H⟩ := H
         by_cases c14 : t261 = true
         ·subst c14
          replace H := hT H
          obtain rfl := Option.some.inj H
          have p258 : 0 ≤ (x13_1 : Int) := Kp (by first | (with_reducible assumption) | assumption)
          have q258 : x13_1 < (l0.length : Int) := Kp (by first | (with_reducible assumption) | assumption)
          obtain ⟨ad258, e258, hx258_0, hx258_1, hx258_2, hx258_3⟩ := at_T70 HR0.out x13_1 p258 q258
          cases e258
          replace hx258_0 := hc_ HB hx258_0
          replace hx258_1 := hc_ HB hx258_1
          replace hx258_2 := hc_ HB hx258_2
          replace hx258_3 := hc_ HB hx258_3
          replace p258 := eq_true p258
          replace q258 := eq_true q258
          go_wp2_with (first | ((with_reducible refine gate_dst (N := 10) rfl ?_); refine bE 10 #[.int .i64 0, .int .i64 0, .int .i64 0, .int .i64 0] 70 ?_; intro gb259 hg w15 hbox hb; have n0_ := am (Kb (bB BK257.out) hb); have q_ := hbx_ (sB HB.out) hg hb; have n1_ := q_.1; have n2_ := am (hbox); have n3_ := q_.2; have n4_ := n3_; have n5_ := nL hg (bB BK257.out); have n6_ := nR hg (bB BK257.out); clear BK257; clear HB; have BK257 := n0_; have HB := n1_; have BK259 := n2_; have GW259 := n3_; have GE259 := n4_; have NB257_259 := n5_; have NB259_257 := n6_; clear n0_ n1_ n2_ n3_ n4_ n5_ n6_; clear hb hbox hg; have hnb16 := NB259_257.out; have hnc16 := NB257_259.out; obtain ⟨hcz17_0, hcz17_1, hcz17_2, hcz17_3, hfz17_0, hfz17_1, hfz17_2, hfz17_3⟩ := blk4 BK259.out) | ((with_reducible refine gate_callee (f := 37) rfl ?_); refine gL (some 18) Try.func37 #[.agg #[.int .i64 ((rd_T70 l0 x13_1).f0), .int .i64 ((rd_T70 l0 x13_1).f1.f0), .int .i64 ((rd_T70 l0 x13_1).f1.f1), .int .i64 ((rd_T70 l0 x13_1).f2)]] ?_; (with_reducible refine (impl_IsLimit.calls ((rd_T70 l0 x13_1).f0) ((rd_T70 l0 x13_1).f1.f0) ((rd_T70 l0 x13_1).f1.f1) ((rd_T70 l0 x13_1).f2) true _ A9.out).mono ?_); rintro e w18 ⟨rfl, hb⟩; refine ⟨_, rfl, ?_⟩; replace BK257 := am (Kb (fB NB257_259.out BK257.out) hb); replace BK259 := am (Kb (g := gb259) (o := .cells #[.int .i64 ((rd_T70 l0 x13_1).f0), .int .i64 ((rd_T70 l0 x13_1).f1.f0), .int .i64 ((rd_T70 l0 x13_1).f1.f1), .int .i64 ((rd_T70 l0 x13_1).f2)] 70 (0, 0)) (by refine bB ?_; refine Kg (cs := #[.int .i64 ((rd_T70 l0 x13_1).f0), .int .i64 ((rd_T70 l0 x13_1).f1.f0), .int .i64 ((rd_T70 l0 x13_1).f1.f1), .int .i64 0]) ?_ 3 _ rfl; refine bB ?_; refine Kg (cs := #[.int .i64 ((rd_T70 l0 x13_1).f0), .int .i64 ((rd_T70 l0 x13_1).f1.f0), .int .i64 0, .int .i64 0]) ?_ 2 _ rfl; refine bB ?_; refine Kg (cs := #[.int .i64 ((rd_T70 l0 x13_1).f0), .int .i64 0, .int .i64 0, .int .i64 0]) ?_ 1 _ rfl; refine bB ?_; refine Kg (cs := #[.int .i64 0, .int .i64 0, .int .i64 0, .int .i64 0]) ?_ 0 _ rfl; refine bB ?_; exact BK259.out) hb); replace HB := am (Kh (sB HB.out) hb); (try clear hb); obtain ⟨hcz19_0, hcz19_1, hcz19_2, hcz19_3, hfz19_0, hfz19_1, hfz19_2, hfz19_3⟩ := blk4 BK259.out; obtain ⟨hcz20_0, hcz20_1, hfz20_0, hfz20_1⟩ := blk2 BK257.out) | (go_at_call 15; (with_reducible refine (impl_MatchSite.calls ((rd_T70 l0 x13_1).f1.f0) ((rd_T70 l0 x13_1).f1.f1) a2_0 a2_1 true _ A13.out).mono ?_); rintro e w21 ⟨rfl, hb⟩; replace BK257 := am (Kb (bB BK257.out) hb); replace BK259 := am (Kb (bB BK259.out) hb); replace HB := am (Kh (sB HB.out) hb); (try clear hb)))
          go_ret
          exact lf (sB HB.out)
         ·replace c14 := bF c14
          subst c14
          replace H := hF H
          have H' := am H
          clear H
          have p258 : 0 ≤ (x13_1 : Int) := Kp (by first | (with_reducible assumption) | assumption)
          have q258 : x13_1 < (l0.length : Int) := Kp (by first | (with_reducible assumption) | assumption)
          obtain ⟨ad258, e258, hx258_0, hx258_1, hx258_2, hx258_3⟩ := at_T70 HR0.out x13_1 p258 q258
          cases e258
          replace hx258_0 := hc_ HB hx258_0
          replace hx258_1 := hc_ HB hx258_1
          replace hx258_2 := hc_ HB hx258_2
          replace hx258_3 := hc_ HB hx258_3
          replace p258 := eq_true p258
          replace q258 := eq_true q258
          go_wp2_with (first | ((with_reducible refine gate_dst (N := 10) rfl ?_); refine bE 10 #[.int .i64 0, .int .i64 0, .int .i64 0, .int .i64 0] 70 ?_; intro gb259 hg w22 hbox hb; have n0_ := am (Kb (bB BK257.out) hb); have q_ := hbx_ (sB HB.out) hg hb; have n1_ := q_.1; have n2_ := am (hbox); have n3_ := q_.2; have n4_ := n3_; have n5_ := nL hg (bB BK257.out); have n6_ := nR hg (bB BK257.out); clear BK257; clear HB; have BK257 := n0_; have HB := n1_; have BK259 := n2_; have GW259 := n3_; have GE259 := n4_; have NB257_259 := n5_; have NB259_257 := n6_; clear n0_ n1_ n2_ n3_ n4_ n5_ n6_; clear hb hbox hg; have hnb23 := NB259_257.out; have hnc23 := NB257_259.out; obtain ⟨hcz24_0, hcz24_1, hcz24_2, hcz24_3, hfz24_0, hfz24_1, hfz24_2, hfz24_3⟩ := blk4 BK259.out) | ((with_reducible refine gate_callee (f := 37) rfl ?_); refine gL (some 18) Try.func37 #[.agg #[.int .i64 ((rd_T70 l0 x13_1).f0), .int .i64 ((rd_T70 l0 x13_1).f1.f0), .int .i64 ((rd_T70 l0 x13_1).f1.f1), .int .i64 ((rd_T70 l0 x13_1).f2)]] ?_; (with_reducible refine (impl_IsLimit.calls ((rd_T70 l0 x13_1).f0) ((rd_T70 l0 x13_1).f1.f0) ((rd_T70 l0 x13_1).f1.f1) ((rd_T70 l0 x13_1).f2) true _ A9.out).mono ?_); rintro e w25 ⟨rfl, hb⟩; refine ⟨_, rfl, ?_⟩; replace BK257 := am (Kb (fB NB257_259.out BK257.out) hb); replace BK259 := am (Kb (g := gb259) (o := .cells #[.int .i64 ((rd_T70 l0 x13_1).f0), .int .i64 ((rd_T70 l0 x13_1).f1.f0), .int .i64 ((rd_T70 l0 x13_1).f1.f1), .int .i64 ((rd_T70 l0 x13_1).f2)] 70 (0, 0)) (by refine bB ?_; refine Kg (cs := #[.int .i64 ((rd_T70 l0 x13_1).f0), .int .i64 ((rd_T70 l0 x13_1).f1.f0), .int .i64 ((rd_T70 l0 x13_1).f1.f1), .int .i64 0]) ?_ 3 _ rfl; refine bB ?_; refine Kg (cs := #[.int .i64 ((rd_T70 l0 x13_1).f0), .int .i64 ((rd_T70 l0 x13_1).f1.f0), .int .i64 0, .int .i64 0]) ?_ 2 _ rfl; refine bB ?_; refine Kg (cs := #[.int .i64 ((rd_T70 l0 x13_1).f0), .int .i64 0, .int .i64 0, .int .i64 0]) ?_ 1 _ rfl; refine bB ?_; refine Kg (cs := #[.int .i64 0, .int .i64 0, .int .i64 0, .int .i64 0]) ?_ 0 _ rfl; refine bB ?_; exact BK259.out) hb); replace HB := am (Kh (sB HB.out) hb); (try clear hb); obtain ⟨hcz26_0, hcz26_1, hcz26_2, hcz26_3, hfz26_0, hfz26_1, hfz26_2, hfz26_3⟩ := blk4 BK259.out; obtain ⟨hcz27_0, hcz27_1, hfz27_0, hfz27_1⟩ := blk2 BK257.out) | (go_at_call 15; (with_reducible refine (impl_MatchSite.calls ((rd_T70 l0 x13_1).f1.f0) ((rd_T70 l0 x13_1).f1.f1) a2_0 a2_1 false _ A13.out).mono ?_); rintro e w28 ⟨rfl, hb⟩; replace BK257 := am (Kb (bB BK257.out) hb); replace BK259 := am (Kb (bB BK259.out) hb); replace HB := am (Kh (sB HB.out) hb); (try clear hb)))
          go_roundg k1
          case measure => have := HK1.out; omega
          case rel => exact ⟨(wrap64 (x13_1 + 1)), (by first | rfl | (simp; done) | (simp [*]; done)), H', ⟨by have := HK1.out; omega⟩, ⟨bB BK257.out⟩, ⟨sB HB.out⟩⟩
        ·rw [if_neg c12] at H
         have c12b0 : (((rd_T70 l0 x13_1).f2) == 0) = false := beq_eq_false_iff_ne.mpr c12
         have c12b1 : (((rd_T70 l0 x13_1).f2) != 0) = true := bne_iff_ne.mpr c12
         by_cases c29 : ((rd_T70 l0 x13_1).f2) = a3
         ·rw [if_pos c29] at H
          have c29b0 : (((rd_T70 l0 x13_1).f2) == a3) = true := beq_iff_eq.mpr c29
          have c29b1 : (((rd_T70 l0 x13_1).f2) != a3) = false := bne_eq_false_iff_eq.mpr c29
          clear c29
          replace H := bO H
          obtain ⟨t262, A30, H⟩ := H
          by_cases c31 : t262 = true
          ·subst c31
           replace H := hT H
           obtain rfl := Option.some.inj H
           have p258 : 0 ≤ (x13_1 : Int) := Kp (by first | (with_reducible assumption) | assumption)
           have q258 : x13_1 < (l0.length : Int) := Kp (by first | (with_reducible assumption) | assumption)
           obtain ⟨ad258, e258, hx258_0, hx258_1, hx258_2, hx258_3⟩ := at_T70 HR0.out x13_1 p258 q258
           cases e258
           replace hx258_0 := hc_ HB hx258_0
           replace hx258_1 := hc_ HB hx258_1
           replace hx258_2 := hc_ HB hx258_2
           replace hx258_3 := hc_ HB hx258_3
           replace p258 := eq_true p258
           replace q258 := eq_true q258
           go_wp2_with (first | ((with_reducible refine gate_dst (N := 10) rfl ?_); refine bE 10 #[.int .i64 0, .int .i64 0, .int .i64 0, .int .i64 0] 70 ?_; intro gb259 hg w32 hbox hb; have n0_ := am (Kb (bB BK257.out) hb); have q_ := hbx_ (sB HB.out) hg hb; have n1_ := q_.1; have n2_ := am (hbox); have n3_ := q_.2; have n4_ := n3_; have n5_ := nL hg (bB BK257.out); have n6_ := nR hg (bB BK257.out); clear BK257; clear HB; have BK257 := n0_; have HB := n1_; have BK259 := n2_; have GW259 := n3_; have GE259 := n4_; have NB257_259 := n5_; have NB259_257 := n6_; clear n0_ n1_ n2_ n3_ n4_ n5_ n6_; clear hb hbox hg; have hnb33 := NB259_257.out; have hnc33 := NB257_259.out; obtain ⟨hcz34_0, hcz34_1, hcz34_2, hcz34_3, hfz34_0, hfz34_1, hfz34_2, hfz34_3⟩ := blk4 BK259.out) | ((with_reducible refine gate_callee (f := 37) rfl ?_); refine gL (some 18) Try.func37 #[.agg #[.int .i64 ((rd_T70 l0 x13_1).f0), .int .i64 ((rd_T70 l0 x13_1).f1.f0), .int .i64 ((rd_T70 l0 x13_1).f1.f1), .int .i64 ((rd_T70 l0 x13_1).f2)]] ?_; (with_reducible refine (impl_IsLimit.calls ((rd_T70 l0 x13_1).f0) ((rd_T70 l0 x13_1).f1.f0) ((rd_T70 l0 x13_1).f1.f1) ((rd_T70 l0 x13_1).f2) true _ A9.out).mono ?_); rintro e w35 ⟨rfl, hb⟩; refine ⟨_, rfl, ?_⟩; replace BK257 := am (Kb (fB NB257_259.out BK257.out) hb); replace BK259 := am (Kb (g := gb259) (o := .cells #[.int .i64 ((rd_T70 l0 x13_1).f0), .int .i64 ((rd_T70 l0 x13_1).f1.f0), .int .i64 ((rd_T70 l0 x13_1).f1.f1), .int .i64 ((rd_T70 l0 x13_1).f2)] 70 (0, 0)) (by refine bB ?_; refine Kg (cs := #[.int .i64 ((rd_T70 l0 x13_1).f0), .int .i64 ((rd_T70 l0 x13_1).f1.f0), .int .i64 ((rd_T70 l0 x13_1).f1.f1), .int .i64 0]) ?_ 3 _ rfl; refine bB ?_; refine Kg (cs := #[.int .i64 ((rd_T70 l0 x13_1).f0), .int .i64 ((rd_T70 l0 x13_1).f1.f0), .int .i64 0, .int .i64 0]) ?_ 2 _ rfl; refine bB ?_; refine Kg (cs := #[.int .i64 ((rd_T70 l0 x13_1).f0), .int .i64 0, .int .i64 0, .int .i64 0]) ?_ 1 _ rfl; refine bB ?_; refine Kg (cs := #[.int .i64 0, .int .i64 0, .int .i64 0, .int .i64 0]) ?_ 0 _ rfl; refine bB ?_; exact BK259.out) hb); replace HB := am (Kh (sB HB.out) hb); (try clear hb); obtain ⟨hcz36_0, hcz36_1, hcz36_2, hcz36_3, hfz36_0, hfz36_1, hfz36_2, hfz36_3⟩ := blk4 BK259.out; obtain ⟨hcz37_0, hcz37_1, hfz37_0, hfz37_1⟩ := blk2 BK257.out) | (go_at_call 15; (with_reducible refine (impl_MatchSite.calls ((rd_T70 l0 x13_1).f1.f0) ((rd_T70 l0 x13_1).f1.f1) a2_0 a2_1 true _ A30.out).mono ?_); rintro e w38 ⟨rfl, hb⟩; replace BK257 := am (Kb (bB BK257.out) hb); replace BK259 := am (Kb (bB BK259.out) hb); replace HB := am (Kh (sB HB.out) hb); (try clear hb)))
           go_ret
           exact lf (sB HB.out)
          ·replace c31 := bF c31
           subst c31
           replace H := hF H
           have H' := am H
           clear H
           have p258 : 0 ≤ (x13_1 : Int) := Kp (by first | (with_reducible assumption) | assumption)
           have q258 : x13_1 < (l0.length : Int) := Kp (by first | (with_reducible assumption) | assumption)
           obtain ⟨ad258, e258, hx258_0, hx258_1, hx258_2, hx258_3⟩ := at_T70 HR0.out x13_1 p258 q258
           cases e258
           replace hx258_0 := hc_ HB hx258_0
           replace hx258_1 := hc_ HB hx258_1
           replace hx258_2 := hc_ HB hx258_2
           replace hx258_3 := hc_ HB hx258_3
           replace p258 := eq_true p258
           replace q258 := eq_true q258
           go_wp2_with (first | ((with_reducible refine gate_dst (N := 10) rfl ?_); refine bE 10 #[.int .i64 0, .int .i64 0, .int .i64 0, .int .i64 0] 70 ?_; intro gb259 hg w39 hbox hb; have n0_ := am (Kb (bB BK257.out) hb); have q_ := hbx_ (sB HB.out) hg hb; have n1_ := q_.1; have n2_ := am (hbox); have n3_ := q_.2; have n4_ := n3_; have n5_ := nL hg (bB BK257.out); have n6_ := nR hg (bB BK257.out); clear BK257; clear HB; have BK257 := n0_; have HB := n1_; have BK259 := n2_; have GW259 := n3_; have GE259 := n4_; have NB257_259 := n5_; have NB259_257 := n6_; clear n0_ n1_ n2_ n3_ n4_ n5_ n6_; clear hb hbox hg; have hnb40 := NB259_257.out; have hnc40 := NB257_259.out; obtain ⟨hcz41_0, hcz41_1, hcz41_2, hcz41_3, hfz41_0, hfz41_1, hfz41_2, hfz41_3⟩ := blk4 BK259.out) | ((with_reducible refine gate_callee (f := 37) rfl ?_); refine gL (some 18) Try.func37 #[.agg #[.int .i64 ((rd_T70 l0 x13_1).f0), .int .i64 ((rd_T70 l0 x13_1).f1.f0), .int .i64 ((rd_T70 l0 x13_1).f1.f1), .int .i64 ((rd_T70 l0 x13_1).f2)]] ?_; (with_reducible refine (impl_IsLimit.calls ((rd_T70 l0 x13_1).f0) ((rd_T70 l0 x13_1).f1.f0) ((rd_T70 l0 x13_1).f1.f1) ((rd_T70 l0 x13_1).f2) true _ A9.out).mono ?_); rintro e w42 ⟨rfl, hb⟩; refine ⟨_, rfl, ?_⟩; replace BK257 := am (Kb (fB NB257_259.out BK257.out) hb); replace BK259 := am (Kb (g := gb259) (o := .cells #[.int .i64 ((rd_T70 l0 x13_1).f0), .int .i64 ((rd_T70 l0 x13_1).f1.f0), .int .i64 ((rd_T70 l0 x13_1).f1.f1), .int .i64 ((rd_T70 l0 x13_1).f2)] 70 (0, 0)) (by refine bB ?_; refine Kg (cs := #[.int .i64 ((rd_T70 l0 x13_1).f0), .int .i64 ((rd_T70 l0 x13_1).f1.f0), .int .i64 ((rd_T70 l0 x13_1).f1.f1), .int .i64 0]) ?_ 3 _ rfl; refine bB ?_; refine Kg (cs := #[.int .i64 ((rd_T70 l0 x13_1).f0), .int .i64 ((rd_T70 l0 x13_1).f1.f0), .int .i64 0, .int .i64 0]) ?_ 2 _ rfl; refine bB ?_; refine Kg (cs := #[.int .i64 ((rd_T70 l0 x13_1).f0), .int .i64 0, .int .i64 0, .int .i64 0]) ?_ 1 _ rfl; refine bB ?_; refine Kg (cs := #[.int .i64 0, .int .i64 0, .int .i64 0, .int .i64 0]) ?_ 0 _ rfl; refine bB ?_; exact BK259.out) hb); replace HB := am (Kh (sB HB.out) hb); (try clear hb); obtain ⟨hcz43_0, hcz43_1, hcz43_2, hcz43_3, hfz43_0, hfz43_1, hfz43_2, hfz43_3⟩ := blk4 BK259.out; obtain ⟨hcz44_0, hcz44_1, hfz44_0, hfz44_1⟩ := blk2 BK257.out) | (go_at_call 15; (with_reducible refine (impl_MatchSite.calls ((rd_T70 l0 x13_1).f1.f0) ((rd_T70 l0 x13_1).f1.f1) a2_0 a2_1 false _ A30.out).mono ?_); rintro e w45 ⟨rfl, hb⟩; replace BK257 := am (Kb (bB BK257.out) hb); replace BK259 := am (Kb (bB BK259.out) hb); replace HB := am (Kh (sB HB.out) hb); (try clear hb)))
           go_roundg k1
           case measure => have := HK1.out; omega
           case rel => exact ⟨(wrap64 (x13_1 + 1)), (by first | rfl | (simp; done) | (simp [*]; done)), H', ⟨by have := HK1.out; omega⟩, ⟨bB BK257.out⟩, ⟨sB HB.out⟩⟩
         ·rw [if_neg c29] at H
          have c29b0 : (((rd_T70 l0 x13_1).f2) == a3) = false := beq_eq_false_iff_ne.mpr c29
          have c29b1 : (((rd_T70 l0 x13_1).f2) != a3) = true := bne_iff_ne.mpr c29
          have H' := am H
          clear H
          have p258 : 0 ≤ (x13_1 : Int) := Kp (by first | (with_reducible assumption) | assumption)
          have q258 : x13_1 < (l0.length : Int) := Kp (by first | (with_reducible assumption) | assumption)
          obtain ⟨ad258, e258, hx258_0, hx258_1, hx258_2, hx258_3⟩ := at_T70 HR0.out x13_1 p258 q258
          cases e258
          replace hx258_0 := hc_ HB hx258_0
          replace hx258_1 := hc_ HB hx258_1
          replace hx258_2 := hc_ HB hx258_2
          replace hx258_3 := hc_ HB hx258_3
          replace p258 := eq_true p258
          replace q258 := eq_true q258
          go_wp2_with (first | ((with_reducible refine gate_dst (N := 10) rfl ?_); refine bE 10 #[.int .i64 0, .int .i64 0, .int .i64 0, .int .i64 0] 70 ?_; intro gb259 hg w46 hbox hb; have n0_ := am (Kb (bB BK257.out) hb); have q_ := hbx_ (sB HB.out) hg hb; have n1_ := q_.1; have n2_ := am (hbox); have n3_ := q_.2; have n4_ := n3_; have n5_ := nL hg (bB BK257.out); have n6_ := nR hg (bB BK257.out); clear BK257; clear HB; have BK257 := n0_; have HB := n1_; have BK259 := n2_; have GW259 := n3_; have GE259 := n4_; have NB257_259 := n5_; have NB259_257 := n6_; clear n0_ n1_ n2_ n3_ n4_ n5_ n6_; clear hb hbox hg; have hnb47 := NB259_257.out; have hnc47 := NB257_259.out; obtain ⟨hcz48_0, hcz48_1, hcz48_2, hcz48_3, hfz48_0, hfz48_1, hfz48_2, hfz48_3⟩ := blk4 BK259.out) | ((with_reducible refine gate_callee (f := 37) rfl ?_); refine gL (some 18) Try.func37 #[.agg #[.int .i64 ((rd_T70 l0 x13_1).f0), .int .i64 ((rd_T70 l0 x13_1).f1.f0), .int .i64 ((rd_T70 l0 x13_1).f1.f1), .int .i64 ((rd_T70 l0 x13_1).f2)]] ?_; (with_reducible refine (impl_IsLimit.calls ((rd_T70 l0 x13_1).f0) ((rd_T70 l0 x13_1).f1.f0) ((rd_T70 l0 x13_1).f1.f1) ((rd_T70 l0 x13_1).f2) true _ A9.out).mono ?_); rintro e w49 ⟨rfl, hb⟩; refine ⟨_, rfl, ?_⟩; replace BK257 := am (Kb (fB NB257_259.out BK257.out) hb); replace BK259 := am (Kb (g := gb259) (o := .cells #[.int .i64 ((rd_T70 l0 x13_1).f0), .int .i64 ((rd_T70 l0 x13_1).f1.f0), .int .i64 ((rd_T70 l0 x13_1).f1.f1), .int .i64 ((rd_T70 l0 x13_1).f2)] 70 (0, 0)) (by refine bB ?_; refine Kg (cs := #[.int .i64 ((rd_T70 l0 x13_1).f0), .int .i64 ((rd_T70 l0 x13_1).f1.f0), .int .i64 ((rd_T70 l0 x13_1).f1.f1), .int .i64 0]) ?_ 3 _ rfl; refine bB ?_; refine Kg (cs := #[.int .i64 ((rd_T70 l0 x13_1).f0), .int .i64 ((rd_T70 l0 x13_1).f1.f0), .int .i64 0, .int .i64 0]) ?_ 2 _ rfl; refine bB ?_; refine Kg (cs := #[.int .i64 ((rd_T70 l0 x13_1).f0), .int .i64 0, .int .i64 0, .int .i64 0]) ?_ 1 _ rfl; refine bB ?_; refine Kg (cs := #[.int .i64 0, .int .i64 0, .int .i64 0, .int .i64 0]) ?_ 0 _ rfl; refine bB ?_; exact BK259.out) hb); replace HB := am (Kh (sB HB.out) hb); (try clear hb); obtain ⟨hcz50_0, hcz50_1, hcz50_2, hcz50_3, hfz50_0, hfz50_1, hfz50_2, hfz50_3⟩ := blk4 BK259.out))
          go_roundg k1
          case measure => have := HK1.out; omega
          case rel => exact ⟨(wrap64 (x13_1 + 1)), (by first | rfl | (simp; done) | (simp [*]; done)), H', ⟨by have := HK1.out; omega⟩, ⟨bB BK257.out⟩, ⟨sB HB.out⟩⟩
       ·rw [if_neg c11] at H
        have c11b0 : (((rd_T70 l0 x13_1).f0) == 0) = false := beq_eq_false_iff_ne.mpr c11
        have c11b1 : (((rd_T70 l0 x13_1).f0) != 0) = true := bne_iff_ne.mpr c11
        by_cases c51 : ((rd_T70 l0 x13_1).f0) = a1
        ·rw [if_pos c51] at H
         have c51b0 : (((rd_T70 l0 x13_1).f0) == a1) = true := beq_iff_eq.mpr c51
         have c51b1 : (((rd_T70 l0 x13_1).f0) != a1) = false := bne_eq_false_iff_eq.mpr c51
         clear c51
         by_cases c52 : ((rd_T70 l0 x13_1).f2) = 0
         ·rw [if_pos c52] at H
          have c52b0 : (((rd_T70 l0 x13_1).f2) == 0) = true := beq_iff_eq.mpr c52
          have c52b1 : (((rd_T70 l0 x13_1).f2) != 0) = false := bne_eq_false_iff_eq.mpr c52
          clear c52
          replace H := bO H
          obtain ⟨t263, A53, H⟩ := H
          by_cases c54 : t263 = true
          ·subst c54
           replace H := hT H
           obtain rfl := Option.some.inj H
           have p258 : 0 ≤ (x13_1 : Int) := Kp (by first | (with_reducible assumption) | assumption)
           have q258 : x13_1 < (l0.length : Int) := Kp (by first | (with_reducible assumption) | assumption)
           obtain ⟨ad258, e258, hx258_0, hx258_1, hx258_2, hx258_3⟩ := at_T70 HR0.out x13_1 p258 q258
           cases e258
           replace hx258_0 := hc_ HB hx258_0
           replace hx258_1 := hc_ HB hx258_1
           replace hx258_2 := hc_ HB hx258_2
           replace hx258_3 := hc_ HB hx258_3
           replace p258 := eq_true p258
           replace q258 := eq_true q258
           go_wp2_with (first | ((with_reducible refine gate_dst (N := 10) rfl ?_); refine bE 10 #[.int .i64 0, .int .i64 0, .int .i64 0, .int .i64 0] 70 ?_; intro gb259 hg w55 hbox hb; have n0_ := am (Kb (bB BK257.out) hb); have q_ := hbx_ (sB HB.out) hg hb; have n1_ := q_.1; have n2_ := am (hbox); have n3_ := q_.2; have n4_ := n3_; have n5_ := nL hg (bB BK257.out); have n6_ := nR hg (bB BK257.out); clear BK257; clear HB; have BK257 := n0_; have HB := n1_; have BK259 := n2_; have GW259 := n3_; have GE259 := n4_; have NB257_259 := n5_; have NB259_257 := n6_; clear n0_ n1_ n2_ n3_ n4_ n5_ n6_; clear hb hbox hg; have hnb56 := NB259_257.out; have hnc56 := NB257_259.out; obtain ⟨hcz57_0, hcz57_1, hcz57_2, hcz57_3, hfz57_0, hfz57_1, hfz57_2, hfz57_3⟩ := blk4 BK259.out) | ((with_reducible refine gate_callee (f := 37) rfl ?_); refine gL (some 18) Try.func37 #[.agg #[.int .i64 ((rd_T70 l0 x13_1).f0), .int .i64 ((rd_T70 l0 x13_1).f1.f0), .int .i64 ((rd_T70 l0 x13_1).f1.f1), .int .i64 ((rd_T70 l0 x13_1).f2)]] ?_; (with_reducible refine (impl_IsLimit.calls ((rd_T70 l0 x13_1).f0) ((rd_T70 l0 x13_1).f1.f0) ((rd_T70 l0 x13_1).f1.f1) ((rd_T70 l0 x13_1).f2) true _ A9.out).mono ?_); rintro e w58 ⟨rfl, hb⟩; refine ⟨_, rfl, ?_⟩; replace BK257 := am (Kb (fB NB257_259.out BK257.out) hb); replace BK259 := am (Kb (g := gb259) (o := .cells #[.int .i64 ((rd_T70 l0 x13_1).f0), .int .i64 ((rd_T70 l0 x13_1).f1.f0), .int .i64 ((rd_T70 l0 x13_1).f1.f1), .int .i64 ((rd_T70 l0 x13_1).f2)] 70 (0, 0)) (by refine bB ?_; refine Kg (cs := #[.int .i64 ((rd_T70 l0 x13_1).f0), .int .i64 ((rd_T70 l0 x13_1).f1.f0), .int .i64 ((rd_T70 l0 x13_1).f1.f1), .int .i64 0]) ?_ 3 _ rfl; refine bB ?_; refine Kg (cs := #[.int .i64 ((rd_T70 l0 x13_1).f0), .int .i64 ((rd_T70 l0 x13_1).f1.f0), .int .i64 0, .int .i64 0]) ?_ 2 _ rfl; refine bB ?_; refine Kg (cs := #[.int .i64 ((rd_T70 l0 x13_1).f0), .int .i64 0, .int .i64 0, .int .i64 0]) ?_ 1 _ rfl; refine bB ?_; refine Kg (cs := #[.int .i64 0, .int .i64 0, .int .i64 0, .int .i64 0]) ?_ 0 _ rfl; refine bB ?_; exact BK259.out) hb); replace HB := am (Kh (sB HB.out) hb); (try clear hb); obtain ⟨hcz59_0, hcz59_1, hcz59_2, hcz59_3, hfz59_0, hfz59_1, hfz59_2, hfz59_3⟩ := blk4 BK259.out; obtain ⟨hcz60_0, hcz60_1, hfz60_0, hfz60_1⟩ := blk2 BK257.out) | (go_at_call 15; (with_reducible refine (impl_MatchSite.calls ((rd_T70 l0 x13_1).f1.f0) ((rd_T70 l0 x13_1).f1.f1) a2_0 a2_1 true _ A53.out).mono ?_); rintro e w61 ⟨rfl, hb⟩; replace BK257 := am (Kb (bB BK257.out) hb); replace BK259 := am (Kb (bB BK259.out) hb); replace HB := am (Kh (sB HB.out) hb); (try clear hb)))
           go_ret
           exact lf (sB HB.out)
          ·replace c54 := bF c54
           subst c54
           replace H := hF H
           have H' := am H
           clear H
           have p258 : 0 ≤ (x13_1 : Int) := Kp (by first | (with_reducible assumption) | assumption)
           have q258 : x13_1 < (l0.length : Int) := Kp (by first | (with_reducible assumption) | assumption)
           obtain ⟨ad258, e258, hx258_0, hx258_1, hx258_2, hx258_3⟩ := at_T70 HR0.out x13_1 p258 q258
           cases e258
           replace hx258_0 := hc_ HB hx258_0
           replace hx258_1 := hc_ HB hx258_1
           replace hx258_2 := hc_ HB hx258_2
           replace hx258_3 := hc_ HB hx258_3
           replace p258 := eq_true p258
           replace q258 := eq_true q258
           go_wp2_with (first | ((with_reducible refine gate_dst (N := 10) rfl ?_); refine bE 10 #[.int .i64 0, .int .i64 0, .int .i64 0, .int .i64 0] 70 ?_; intro gb259 hg w62 hbox hb; have n0_ := am (Kb (bB BK257.out) hb); have q_ := hbx_ (sB HB.out) hg hb; have n1_ := q_.1; have n2_ := am (hbox); have n3_ := q_.2; have n4_ := n3_; have n5_ := nL hg (bB BK257.out); have n6_ := nR hg (bB BK257.out); clear BK257; clear HB; have BK257 := n0_; have HB := n1_; have BK259 := n2_; have GW259 := n3_; have GE259 := n4_; have NB257_259 := n5_; have NB259_257 := n6_; clear n0_ n1_ n2_ n3_ n4_ n5_ n6_; clear hb hbox hg; have hnb63 := NB259_257.out; have hnc63 := NB257_259.out; obtain ⟨hcz64_0, hcz64_1, hcz64_2, hcz64_3, hfz64_0, hfz64_1, hfz64_2, hfz64_3⟩ := blk4 BK259.out) | ((with_reducible refine gate_callee (f := 37) rfl ?_); refine gL (some 18) Try.func37 #[.agg #[.int .i64 ((rd_T70 l0 x13_1).f0), .int .i64 ((rd_T70 l0 x13_1).f1.f0), .int .i64 ((rd_T70 l0 x13_1).f1.f1), .int .i64 ((rd_T70 l0 x13_1).f2)]] ?_; (with_reducible refine (impl_IsLimit.calls ((rd_T70 l0 x13_1).f0) ((rd_T70 l0 x13_1).f1.f0) ((rd_T70 l0 x13_1).f1.f1) ((rd_T70 l0 x13_1).f2) true _ A9.out).mono ?_); rintro e w65 ⟨rfl, hb⟩; refine ⟨_, rfl, ?_⟩; replace BK257 := am (Kb (fB NB257_259.out BK257.out) hb); replace BK259 := am (Kb (g := gb259) (o := .cells #[.int .i64 ((rd_T70 l0 x13_1).f0), .int .i64 ((rd_T70 l0 x13_1).f1.f0), .int .i64 ((rd_T70 l0 x13_1).f1.f1), .int .i64 ((rd_T70 l0 x13_1).f2)] 70 (0, 0)) (by refine bB ?_; refine Kg (cs := #[.int .i64 ((rd_T70 l0 x13_1).f0), .int .i64 ((rd_T70 l0 x13_1).f1.f0), .int .i64 ((rd_T70 l0 x13_1).f1.f1), .int .i64 0]) ?_ 3 _ rfl; refine bB ?_; refine Kg (cs := #[.int .i64 ((rd_T70 l0 x13_1).f0), .int .i64 ((rd_T70 l0 x13_1).f1.f0), .int .i64 0, .int .i64 0]) ?_ 2 _ rfl; refine bB ?_; refine Kg (cs := #[.int .i64 ((rd_T70 l0 x13_1).f0), .int .i64 0, .int .i64 0, .int .i64 0]) ?_ 1 _ rfl; refine bB ?_; refine Kg (cs := #[.int .i64 0, .int .i64 0, .int .i64 0, .int .i64 0]) ?_ 0 _ rfl; refine bB ?_; exact BK259.out) hb); replace HB := am (Kh (sB HB.out) hb); (try clear hb); obtain ⟨hcz66_0, hcz66_1, hcz66_2, hcz66_3, hfz66_0, hfz66_1, hfz66_2, hfz66_3⟩ := blk4 BK259.out; obtain ⟨hcz67_0, hcz67_1, hfz67_0, hfz67_1⟩ := blk2 BK257.out) | (go_at_call 15; (with_reducible refine (impl_MatchSite.calls ((rd_T70 l0 x13_1).f1.f0) ((rd_T70 l0 x13_1).f1.f1) a2_0 a2_1 false _ A53.out).mono ?_); rintro e w68 ⟨rfl, hb⟩; replace BK257 := am (Kb (bB BK257.out) hb); replace BK259 := am (Kb (bB BK259.out) hb); replace HB := am (Kh (sB HB.out) hb); (try clear hb)))
           go_roundg k1
           case measure => have := HK1.out; omega
           case rel => exact ⟨(wrap64 (x13_1 + 1)), (by first | rfl | (simp; done) | (simp [*]; done)), H', ⟨by have := HK1.out; omega⟩, ⟨bB BK257.out⟩, ⟨sB HB.out⟩⟩
         ·rw [if_neg c52] at H
          have c52b0 : (((rd_T70 l0 x13_1).f2) == 0) = false := beq_eq_false_iff_ne.mpr c52
          have c52b1 : (((rd_T70 l0 x13_1).f2) != 0) = true := bne_iff_ne.mpr c52
          by_cases c69 : ((rd_T70 l0 x13_1).f2) = a3
          ·rw [if_pos c69] at H
           have c69b0 : (((rd_T70 l0 x13_1).f2) == a3) = true := beq_iff_eq.mpr c69
           have c69b1 : (((rd_T70 l0 x13_1).f2) != a3) = false := bne_eq_false_iff_eq.mpr c69
           clear c69
           replace H := bO H
           obtain ⟨t264, A70, H⟩ := H
           by_cases c71 : t264 = true
           ·subst c71
            replace H := hT H
            obtain rfl := Option.some.inj H
            have p258 : 0 ≤ (x13_1 : Int) := Kp (by first | (with_reducible assumption) | assumption)
            have q258 : x13_1 < (l0.length : Int) := Kp (by first | (with_reducible assumption) | assumption)
            obtain ⟨ad258, e258, hx258_0, hx258_1, hx258_2, hx258_3⟩ := at_T70 HR0.out x13_1 p258 q258
            cases e258
            replace hx258_0 := hc_ HB hx258_0
            replace hx258_1 := hc_ HB hx258_1
            replace hx258_2 := hc_ HB hx258_2
            replace hx258_3 := hc_ HB hx258_3
            replace p258 := eq_true p258
            replace q258 := eq_true q258
            go_wp2_with (first | ((with_reducible refine gate_dst (N := 10) rfl ?_); refine bE 10 #[.int .i64 0, .int .i64 0, .int .i64 0, .int .i64 0] 70 ?_; intro gb259 hg w72 hbox hb; have n0_ := am (Kb (bB BK257.out) hb); have q_ := hbx_ (sB HB.out) hg hb; have n1_ := q_.1; have n2_ := am (hbox); have n3_ := q_.2; have n4_ := n3_; have n5_ := nL hg (bB BK257.out); have n6_ := nR hg (bB BK257.out); clear BK257; clear HB; have BK257 := n0_; have HB := n1_; have BK259 := n2_; have GW259 := n3_; have GE259 := n4_; have NB257_259 := n5_; have NB259_257 := n6_; clear n0_ n1_ n2_ n3_ n4_ n5_ n6_; clear hb hbox hg; have hnb73 := NB259_257.out; have hnc73 := NB257_259.out; obtain ⟨hcz74_0, hcz74_1, hcz74_2, hcz74_3, hfz74_0, hfz74_1, hfz74_2, hfz74_3⟩ := blk4 BK259.out) | ((with_reducible refine gate_callee (f := 37) rfl ?_); refine gL (some 18) Try.func37 #[.agg #[.int .i64 ((rd_T70 l0 x13_1).f0), .int .i64 ((rd_T70 l0 x13_1).f1.f0), .int .i64 ((rd_T70 l0 x13_1).f1.f1), .int .i64 ((rd_T70 l0 x13_1).f2)]] ?_; (with_reducible refine (impl_IsLimit.calls ((rd_T70 l0 x13_1).f0) ((rd_T70 l0 x13_1).f1.f0) ((rd_T70 l0 x13_1).f1.f1) ((rd_T70 l0 x13_1).f2) true _ A9.out).mono ?_); rintro e w75 ⟨rfl, hb⟩; refine ⟨_, rfl, ?_⟩; replace BK257 := am (Kb (fB NB257_259.out BK257.out) hb); replace BK259 := am (Kb (g := gb259) (o := .cells #[.int .i64 ((rd_T70 l0 x13_1).f0), .int .i64 ((rd_T70 l0 x13_1).f1.f0), .int .i64 ((rd_T70 l0 x13_1).f1.f1), .int .i64 ((rd_T70 l0 x13_1).f2)] 70 (0, 0)) (by refine bB ?_; refine Kg (cs := #[.int .i64 ((rd_T70 l0 x13_1).f0), .int .i64 ((rd_T70 l0 x13_1).f1.f0), .int .i64 ((rd_T70 l0 x13_1).f1.f1), .int .i64 0]) ?_ 3 _ rfl; refine bB ?_; refine Kg (cs := #[.int .i64 ((rd_T70 l0 x13_1).f0), .int .i64 ((rd_T70 l0 x13_1).f1.f0), .int .i64 0, .int .i64 0]) ?_ 2 _ rfl; refine bB ?_; refine Kg (cs := #[.int .i64 ((rd_T70 l0 x13_1).f0), .int .i64 0, .int .i64 0, .int .i64 0]) ?_ 1 _ rfl; refine bB ?_; refine Kg (cs := #[.int .i64 0, .int .i64 0, .int .i64 0, .int .i64 0]) ?_ 0 _ rfl; refine bB ?_; exact BK259.out) hb); replace HB := am (Kh (sB HB.out) hb); (try clear hb); obtain ⟨hcz76_0, hcz76_1, hcz76_2, hcz76_3, hfz76_0, hfz76_1, hfz76_2, hfz76_3⟩ := blk4 BK259.out; obtain ⟨hcz77_0, hcz77_1, hfz77_0, hfz77_1⟩ := blk2 BK257.out) | (go_at_call 15; (with_reducible refine (impl_MatchSite.calls ((rd_T70 l0 x13_1).f1.f0) ((rd_T70 l0 x13_1).f1.f1) a2_0 a2_1 true _ A70.out).mono ?_); rintro e w78 ⟨rfl, hb⟩; replace BK257 := am (Kb (bB BK257.out) hb); replace BK259 := am (Kb (bB BK259.out) hb); replace HB := am (Kh (sB HB.out) hb); (try clear hb)))
            go_ret
            exact lf (sB HB.out)
           ·replace c71 := bF c71
            subst c71
            replace H := hF H
            have H' := am H
            clear H
            have p258 : 0 ≤ (x13_1 : Int) := Kp (by first | (with_reducible assumption) | assumption)
            have q258 : x13_1 < (l0.length : Int) := Kp (by first | (with_reducible assumption) | assumption)
            obtain ⟨ad258, e258, hx258_0, hx258_1, hx258_2, hx258_3⟩ := at_T70 HR0.out x13_1 p258 q258
            cases e258
            replace hx258_0 := hc_ HB hx258_0
            replace hx258_1 := hc_ HB hx258_1
            replace hx258_2 := hc_ HB hx258_2
            replace hx258_3 := hc_ HB hx258_3
            replace p258 := eq_true p258
            replace q258 := eq_true q258
            go_wp2_with (first | ((with_reducible refine gate_dst (N := 10) rfl ?_); refine bE 10 #[.int .i64 0, .int .i64 0, .int .i64 0, .int .i64 0] 70 ?_; intro gb259 hg w79 hbox hb; have n0_ := am (Kb (bB BK257.out) hb); have q_ := hbx_ (sB HB.out) hg hb; have n1_ := q_.1; have n2_ := am (hbox); have n3_ := q_.2; have n4_ := n3_; have n5_ := nL hg (bB BK257.out); have n6_ := nR hg (bB BK257.out); clear BK257; clear HB; have BK257 := n0_; have HB := n1_; have BK259 := n2_; have GW259 := n3_; have GE259 := n4_; have NB257_259 := n5_; have NB259_257 := n6_; clear n0_ n1_ n2_ n3_ n4_ n5_ n6_; clear hb hbox hg; have hnb80 := NB259_257.out; have hnc80 := NB257_259.out; obtain ⟨hcz81_0, hcz81_1, hcz81_2, hcz81_3, hfz81_0, hfz81_1, hfz81_2, hfz81_3⟩ := blk4 BK259.out) | ((with_reducible refine gate_callee (f := 37) rfl ?_); refine gL (some 18) Try.func37 #[.agg #[.int .i64 ((rd_T70 l0 x13_1).f0), .int .i64 ((rd_T70 l0 x13_1).f1.f0), .int .i64 ((rd_T70 l0 x13_1).f1.f1), .int .i64 ((rd_T70 l0 x13_1).f2)]] ?_; (with_reducible refine (impl_IsLimit.calls ((rd_T70 l0 x13_1).f0) ((rd_T70 l0 x13_1).f1.f0) ((rd_T70 l0 x13_1).f1.f1) ((rd_T70 l0 x13_1).f2) true _ A9.out).mono ?_); rintro e w82 ⟨rfl, hb⟩; refine ⟨_, rfl, ?_⟩; replace BK257 := am (Kb (fB NB257_259.out BK257.out) hb); replace BK259 := am (Kb (g := gb259) (o := .cells #[.int .i64 ((rd_T70 l0 x13_1).f0), .int .i64 ((rd_T70 l0 x13_1).f1.f0), .int .i64 ((rd_T70 l0 x13_1).f1.f1), .int .i64 ((rd_T70 l0 x13_1).f2)] 70 (0, 0)) (by refine bB ?_; refine Kg (cs := #[.int .i64 ((rd_T70 l0 x13_1).f0), .int .i64 ((rd_T70 l0 x13_1).f1.f0), .int .i64 ((rd_T70 l0 x13_1).f1.f1), .int .i64 0]) ?_ 3 _ rfl; refine bB ?_; refine Kg (cs := #[.int .i64 ((rd_T70 l0 x13_1).f0), .int .i64 ((rd_T70 l0 x13_1).f1.f0), .int .i64 0, .int .i64 0]) ?_ 2 _ rfl; refine bB ?_; refine Kg (cs := #[.int .i64 ((rd_T70 l0 x13_1).f0), .int .i64 0, .int .i64 0, .int .i64 0]) ?_ 1 _ rfl; refine bB ?_; refine Kg (cs := #[.int .i64 0, .int .i64 0, .int .i64 0, .int .i64 0]) ?_ 0 _ rfl; refine bB ?_; exact BK259.out) hb); replace HB := am (Kh (sB HB.out) hb); (try clear hb); obtain ⟨hcz83_0, hcz83_1, hcz83_2, hcz83_3, hfz83_0, hfz83_1, hfz83_2, hfz83_3⟩ := blk4 BK259.out; obtain ⟨hcz84_0, hcz84_1, hfz84_0, hfz84_1⟩ := blk2 BK257.out) | (go_at_call 15; (with_reducible refine (impl_MatchSite.calls ((rd_T70 l0 x13_1).f1.f0) ((rd_T70 l0 x13_1).f1.f1) a2_0 a2_1 false _ A70.out).mono ?_); rintro e w85 ⟨rfl, hb⟩; replace BK257 := am (Kb (bB BK257.out) hb); replace BK259 := am (Kb (bB BK259.out) hb); replace HB := am (Kh (sB HB.out) hb); (try clear hb)))
            go_roundg k1
            case measure => have := HK1.out; omega
            case rel => exact ⟨(wrap64 (x13_1 + 1)), (by first | rfl | (simp; done) | (simp [*]; done)), H', ⟨by have := HK1.out; omega⟩, ⟨bB BK257.out⟩, ⟨sB HB.out⟩⟩
          ·rw [if_neg c69] at H
           have c69b0 : (((rd_T70 l0 x13_1).f2) == a3) = false := beq_eq_false_iff_ne.mpr c69
           have c69b1 : (((rd_T70 l0 x13_1).f2) != a3) = true := bne_iff_ne.mpr c69
           have H' := am H
           clear H
           have p258 : 0 ≤ (x13_1 : Int) := Kp (by first | (with_reducible assumption) | assumption)
           have q258 : x13_1 < (l0.length : Int) := Kp (by first | (with_reducible assumption) | assumption)
           obtain ⟨ad258, e258, hx258_0, hx258_1, hx258_2, hx258_3⟩ := at_T70 HR0.out x13_1 p258 q258
           cases e258
           replace hx258_0 := hc_ HB hx258_0
           replace hx258_1 := hc_ HB hx258_1
           replace hx258_2 := hc_ HB hx258_2
           replace hx258_3 := hc_ HB hx258_3
           replace p258 := eq_true p258
           replace q258 := eq_true q258
           go_wp2_with (first | ((with_reducible refine gate_dst (N := 10) rfl ?_); refine bE 10 #[.int .i64 0, .int .i64 0, .int .i64 0, .int .i64 0] 70 ?_; intro gb259 hg w86 hbox hb; have n0_ := am (Kb (bB BK257.out) hb); have q_ := hbx_ (sB HB.out) hg hb; have n1_ := q_.1; have n2_ := am (hbox); have n3_ := q_.2; have n4_ := n3_; have n5_ := nL hg (bB BK257.out); have n6_ := nR hg (bB BK257.out); clear BK257; clear HB; have BK257 := n0_; have HB := n1_; have BK259 := n2_; have GW259 := n3_; have GE259 := n4_; have NB257_259 := n5_; have NB259_257 := n6_; clear n0_ n1_ n2_ n3_ n4_ n5_ n6_; clear hb hbox hg; have hnb87 := NB259_257.out; have hnc87 := NB257_259.out; obtain ⟨hcz88_0, hcz88_1, hcz88_2, hcz88_3, hfz88_0, hfz88_1, hfz88_2, hfz88_3⟩ := blk4 BK259.out) | ((with_reducible refine gate_callee (f := 37) rfl ?_); refine gL (some 18) Try.func37 #[.agg #[.int .i64 ((rd_T70 l0 x13_1).f0), .int .i64 ((rd_T70 l0 x13_1).f1.f0), .int .i64 ((rd_T70 l0 x13_1).f1.f1), .int .i64 ((rd_T70 l0 x13_1).f2)]] ?_; (with_reducible refine (impl_IsLimit.calls ((rd_T70 l0 x13_1).f0) ((rd_T70 l0 x13_1).f1.f0) ((rd_T70 l0 x13_1).f1.f1) ((rd_T70 l0 x13_1).f2) true _ A9.out).mono ?_); rintro e w89 ⟨rfl, hb⟩; refine ⟨_, rfl, ?_⟩; replace BK257 := am (Kb (fB NB257_259.out BK257.out) hb); replace BK259 := am (Kb (g := gb259) (o := .cells #[.int .i64 ((rd_T70 l0 x13_1).f0), .int .i64 ((rd_T70 l0 x13_1).f1.f0), .int .i64 ((rd_T70 l0 x13_1).f1.f1), .int .i64 ((rd_T70 l0 x13_1).f2)] 70 (0, 0)) (by refine bB ?_; refine Kg (cs := #[.int .i64 ((rd_T70 l0 x13_1).f0), .int .i64 ((rd_T70 l0 x13_1).f1.f0), .int .i64 ((rd_T70 l0 x13_1).f1.f1), .int .i64 0]) ?_ 3 _ rfl; refine bB ?_; refine Kg (cs := #[.int .i64 ((rd_T70 l0 x13_1).f0), .int .i64 ((rd_T70 l0 x13_1).f1.f0), .int .i64 0, .int .i64 0]) ?_ 2 _ rfl; refine bB ?_; refine Kg (cs := #[.int .i64 ((rd_T70 l0 x13_1).f0), .int .i64 0, .int .i64 0, .int .i64 0]) ?_ 1 _ rfl; refine bB ?_; refine Kg (cs := #[.int .i64 0, .int .i64 0, .int .i64 0, .int .i64 0]) ?_ 0 _ rfl; refine bB ?_; exact BK259.out) hb); replace HB := am (Kh (sB HB.out) hb); (try clear hb); obtain ⟨hcz90_0, hcz90_1, hcz90_2, hcz90_3, hfz90_0, hfz90_1, hfz90_2, hfz90_3⟩ := blk4 BK259.out))
           go_roundg k1
           case measure => have := HK1.out; omega
           case rel => exact ⟨(wrap64 (x13_1 + 1)), (by first | rfl | (simp; done) | (simp [*]; done)), H', ⟨by have := HK1.out; omega⟩, ⟨bB BK257.out⟩, ⟨sB HB.out⟩⟩
        ·rw [if_neg c51] at H
         have c51b0 : (((rd_T70 l0 x13_1).f0) == a1) = false := beq_eq_false_iff_ne.mpr c51
         have c51b1 : (((rd_T70 l0 x13_1).f0) != a1) = true := bne_iff_ne.mpr c51
         have H' := am H
         clear H
         have p258 : 0 ≤ (x13_1 : Int) := Kp (by first | (with_reducible assumption) | assumption)
         have q258 : x13_1 < (l0.length : Int) := Kp (by first | (with_reducible assumption) | assumption)
         obtain ⟨ad258, e258, hx258_0, hx258_1, hx258_2, hx258_3⟩ := at_T70 HR0.out x13_1 p258 q258
         cases e258
         replace hx258_0 := hc_ HB hx258_0
         replace hx258_1 := hc_ HB hx258_1
         replace hx258_2 := hc_ HB hx258_2
         replace hx258_3 := hc_ HB hx258_3
         replace p258 := eq_true p258
         replace q258 := eq_true q258
         go_wp2_with (first | ((with_reducible refine gate_dst (N := 10) rfl ?_); refine bE 10 #[.int .i64 0, .int .i64 0, .int .i64 0, .int .i64 0] 70 ?_; intro gb259 hg w91 hbox hb; have n0_ := am (Kb (bB BK257.out) hb); have q_ := hbx_ (sB HB.out) hg hb; have n1_ := q_.1; have n2_ := am (hbox); have n3_ := q_.2; have n4_ := n3_; have n5_ := nL hg (bB BK257.out); have n6_ := nR hg (bB BK257.out); clear BK257; clear HB; have BK257 := n0_; have HB := n1_; have BK259 := n2_; have GW259 := n3_; have GE259 := n4_; have NB257_259 := n5_; have NB259_257 := n6_; clear n0_ n1_ n2_ n3_ n4_ n5_ n6_; clear hb hbox hg; have hnb92 := NB259_257.out; have hnc92 := NB257_259.out; obtain ⟨hcz93_0, hcz93_1, hcz93_2, hcz93_3, hfz93_0, hfz93_1, hfz93_2, hfz93_3⟩ := blk4 BK259.out) | ((with_reducible refine gate_callee (f := 37) rfl ?_); refine gL (some 18) Try.func37 #[.agg #[.int .i64 ((rd_T70 l0 x13_1).f0), .int .i64 ((rd_T70 l0 x13_1).f1.f0), .int .i64 ((rd_T70 l0 x13_1).f1.f1), .int .i64 ((rd_T70 l0 x13_1).f2)]] ?_; (with_reducible refine (impl_IsLimit.calls ((rd_T70 l0 x13_1).f0) ((rd_T70 l0 x13_1).f1.f0) ((rd_T70 l0 x13_1).f1.f1) ((rd_T70 l0 x13_1).f2) true _ A9.out).mono ?_); rintro e w94 ⟨rfl, hb⟩; refine ⟨_, rfl, ?_⟩; replace BK257 := am (Kb (fB NB257_259.out BK257.out) hb); replace BK259 := am (Kb (g := gb259) (o := .cells #[.int .i64 ((rd_T70 l0 x13_1).f0), .int .i64 ((rd_T70 l0 x13_1).f1.f0), .int .i64 ((rd_T70 l0 x13_1).f1.f1), .int .i64 ((rd_T70 l0 x13_1).f2)] 70 (0, 0)) (by refine bB ?_; refine Kg (cs := #[.int .i64 ((rd_T70 l0 x13_1).f0), .int .i64 ((rd_T70 l0 x13_1).f1.f0), .int .i64 ((rd_T70 l0 x13_1).f1.f1), .int .i64 0]) ?_ 3 _ rfl; refine bB ?_; refine Kg (cs := #[.int .i64 ((rd_T70 l0 x13_1).f0), .int .i64 ((rd_T70 l0 x13_1).f1.f0), .int .i64 0, .int .i64 0]) ?_ 2 _ rfl; refine bB ?_; refine Kg (cs := #[.int .i64 ((rd_T70 l0 x13_1).f0), .int .i64 0, .int .i64 0, .int .i64 0]) ?_ 1 _ rfl; refine bB ?_; refine Kg (cs := #[.int .i64 0, .int .i64 0, .int .i64 0, .int .i64 0]) ?_ 0 _ rfl; refine bB ?_; exact BK259.out) hb); replace HB := am (Kh (sB HB.out) hb); (try clear hb); obtain ⟨hcz95_0, hcz95_1, hcz95_2, hcz95_3, hfz95_0, hfz95_1, hfz95_2, hfz95_3⟩ := blk4 BK259.out))
         go_roundg k1
         case measure => have := HK1.out; omega
         case rel => exact ⟨(wrap64 (x13_1 + 1)), (by first | rfl | (simp; done) | (simp [*]; done)), H', ⟨by have := HK1.out; omega⟩, ⟨bB BK257.out⟩, ⟨sB HB.out⟩⟩
      ·replace c10 := bF c10
       subst c10
       replace H := hF H
       have H' := am H
       clear H
       have p258 : 0 ≤ (x13_1 : Int) := Kp (by first | (with_reducible assumption) | assumption)
       have q258 : x13_1 < (l0.length : Int) := Kp (by first | (with_reducible assumption) | assumption)
       obtain ⟨ad258, e258, hx258_0, hx258_1, hx258_2, hx258_3⟩ := at_T70 HR0.out x13_1 p258 q258
       cases e258
       replace hx258_0 := hc_ HB hx258_0
       replace hx258_1 := hc_ HB hx258_1
       replace hx258_2 := hc_ HB hx258_2
       replace hx258_3 := hc_ HB hx258_3
       replace p258 := eq_true p258
       replace q258 := eq_true q258
       go_wp2_with (first | ((with_reducible refine gate_dst (N := 10) rfl ?_); refine bE 10 #[.int .i64 0, .int .i64 0, .int .i64 0, .int .i64 0] 70 ?_; intro gb259 hg w96 hbox hb; have n0_ := am (Kb (bB BK257.out) hb); have q_ := hbx_ (sB HB.out) hg hb; have n1_ := q_.1; have n2_ := am (hbox); have n3_ := q_.2; have n4_ := n3_; have n5_ := nL hg (bB BK257.out); have n6_ := nR hg (bB BK257.out); clear BK257; clear HB; have BK257 := n0_; have HB := n1_; have BK259 := n2_; have GW259 := n3_; have GE259 := n4_; have NB257_259 := n5_; have NB259_257 := n6_; clear n0_ n1_ n2_ n3_ n4_ n5_ n6_; clear hb hbox hg; have hnb97 := NB259_257.out; have hnc97 := NB257_259.out; obtain ⟨hcz98_0, hcz98_1, hcz98_2, hcz98_3, hfz98_0, hfz98_1, hfz98_2, hfz98_3⟩ := blk4 BK259.out) | ((with_reducible refine gate_callee (f := 37) rfl ?_); refine gL (some 18) Try.func37 #[.agg #[.int .i64 ((rd_T70 l0 x13_1).f0), .int .i64 ((rd_T70 l0 x13_1).f1.f0), .int .i64 ((rd_T70 l0 x13_1).f1.f1), .int .i64 ((rd_T70 l0 x13_1).f2)]] ?_; (with_reducible refine (impl_IsLimit.calls ((rd_T70 l0 x13_1).f0) ((rd_T70 l0 x13_1).f1.f0) ((rd_T70 l0 x13_1).f1.f1) ((rd_T70 l0 x13_1).f2) false _ A9.out).mono ?_); rintro e w99 ⟨rfl, hb⟩; refine ⟨_, rfl, ?_⟩; replace BK257 := am (Kb (fB NB257_259.out BK257.out) hb); replace BK259 := am (Kb (g := gb259) (o := .cells #[.int .i64 ((rd_T70 l0 x13_1).f0), .int .i64 ((rd_T70 l0 x13_1).f1.f0), .int .i64 ((rd_T70 l0 x13_1).f1.f1), .int .i64 ((rd_T70 l0 x13_1).f2)] 70 (0, 0)) (by refine bB ?_; refine Kg (cs := #[.int .i64 ((rd_T70 l0 x13_1).f0), .int .i64 ((rd_T70 l0 x13_1).f1.f0), .int .i64 ((rd_T70 l0 x13_1).f1.f1), .int .i64 0]) ?_ 3 _ rfl; refine bB ?_; refine Kg (cs := #[.int .i64 ((rd_T70 l0 x13_1).f0), .int .i64 ((rd_T70 l0 x13_1).f1.f0), .int .i64 0, .int .i64 0]) ?_ 2 _ rfl; refine bB ?_; refine Kg (cs := #[.int .i64 ((rd_T70 l0 x13_1).f0), .int .i64 0, .int .i64 0, .int .i64 0]) ?_ 1 _ rfl; refine bB ?_; refine Kg (cs := #[.int .i64 0, .int .i64 0, .int .i64 0, .int .i64 0]) ?_ 0 _ rfl; refine bB ?_; exact BK259.out) hb); replace HB := am (Kh (sB HB.out) hb); (try clear hb)))
       go_roundg k1
       case measure => have := HK1.out; omega
       case rel => exact ⟨(wrap64 (x13_1 + 1)), (by first | rfl | (simp; done) | (simp [*]; done)), H', ⟨by have := HK1.out; omega⟩, ⟨bB BK257.out⟩, ⟨sB HB.out⟩⟩
     ·rw [if_neg c8] at H
      exact absurd H (by simp)
    ·rw [if_neg c7] at H
     exact absurd H (by simp)
   ·rw [if_neg c6] at H
    have c6b0 : decide (x13_1 < (l0.length : Int)) = false := decide_eq_false c6
    clear c6
    obtain rfl := Option.some.inj H
    go_wp2
    go_ret
    exact lf (sB HB.out)

end Go.Proofs.Ytilneejgliglhaa.QN
