/- Go functions as Lean functions, each with its walk; printed by a program of this session (a scratch copy of print.py that follows nested field addresses and tells a law for the answer true). -/
import Derived.Test.YtilneejgliglhaaQNx0
import Derived.Test.YtilneejgliglhaaQNx41
namespace Go.Proofs.Ytilneejgliglhaa.QN
open Go.RowKit Go.Proofs.YtilneejgliglhaaW.PrintWords Go.Proofs.YtilneejgliglhaaW.PrintLast Go.Proofs.YtilneejgliglhaaW.PrintMore Go.Proofs.Ytilneejgliglhaa.Short
attribute [local go_sem] max2_int min2_int max_two min_two max_three min_three max_four min_four   -- for this text's walks alone
set_option linter.unusedVariables false
set_option linter.unusedSimpArgs false

/-! ### spec_MeetPatterns: function 64 -/
mutual
def spec_MeetPatterns.j0 : Nat → Int → Int → Int → Int → Int → Int → Option (Int × Int × Bool)
 | 0, _, _, _, _, _, _ => none
 | k + 1, x436000, x436001, x437000, x437001, x439000, x439001 => if x437001 = (-1) then (spec_MeetPatterns.j1 k x436000 x436001 x437000 x437001 x439000 x439001) else (spec_MeetPatterns.j1 k x436000 x436001 x437000 x437001 x439000 x437001)
def spec_MeetPatterns.j1 : Nat → Int → Int → Int → Int → Int → Int → Option (Int × Int × Bool)
 | 0, _, _, _, _, _, _ => none
 | k + 1, x436000, x436001, x437000, x437001, x439000, x439001 => (spec_IsNarrower.f x439000 x439001 x436000 x436001).bind fun t439 => (if t439 = true then ((spec_IsNarrower.f x439000 x439001 x437000 x437001).bind fun t440 => (if t440 = true then (some (x439000, x439001, true)) else (some (0, 0, false)))) else (some (0, 0, false)))
end
def spec_MeetPatterns.f (k : Nat) (a0_0 : Int) (a0_1 : Int) (a1_0 : Int) (a1_1 : Int) : Option (Int × Int × Bool) := if a1_0 = 0 then (spec_MeetPatterns.j0 k a0_0 a0_1 a1_0 a1_1 a0_0 a0_1) else (spec_MeetPatterns.j0 k a0_0 a0_1 a1_0 a1_1 a1_0 a0_1)
set_option maxHeartbeats 8000000 in
set_option maxRecDepth 100000 in
theorem spec_MeetPatterns.calls (k : Nat) (a0_0 : Int) (a0_1 : Int) (a1_0 : Int) (a1_1 : Int) (r1 : Int) (r2 : Int) (r3 : Bool) (w : World) (h : spec_MeetPatterns.f k a0_0 a0_1 a1_0 a1_1 = some (r1, r2, r3)) :
  Calls Try.prog 64 #[.agg #[.int .i64 a0_0, .int .i64 a0_1], .agg #[.int .i64 a1_0, .int .i64 a1_1]] w fun e w' => e = .returned (.tuple #[.agg #[.int .i64 r1, .int .i64 r2], .bool r3]) ∧ Below w.heap.size w w' := by
 have hu33 := Try.underlying33
 have HB := am (Below.refl w.heap.size w)
 unfold spec_MeetPatterns.f at h
 have H := h
 clear h
 have HC3 := am H
 clear H
 go_enter Try.func64, Try.ntmps64
 go_upto_if 10 with (first | ((with_reducible refine gate_dst (N := 2) rfl ?_); refine bE 2 #[.int .i64 a0_0, .int .i64 a0_1] 33 ?_; intro gb435 hg w4 hbox hb; have q_ := hbx_ (sB HB.out) hg hb; have n0_ := q_.1; have n1_ := am (hbox); have n2_ := q_.2; have n3_ := n2_; clear HB; have HB := n0_; have BK435 := n1_; have GW435 := n2_; have GE435 := n3_; clear n0_ n1_ n2_ n3_ hb hbox hg) | ((with_reducible refine gate_dst (N := 3) rfl ?_); refine bE 3 #[.int .i64 a1_0, .int .i64 a1_1] 33 ?_; intro gb436 hg w5 hbox hb; have n0_ := am (Kb (bB BK435.out) hb); have q_ := hbx_ (sB HB.out) hg hb; have n1_ := q_.1; have n2_ := am (hbox); have n3_ := q_.2; have n4_ := n3_; have n5_ := nL hg (bB BK435.out); have n6_ := nR hg (bB BK435.out); clear BK435; clear HB; have BK435 := n0_; have HB := n1_; have BK436 := n2_; have GW436 := n3_; have GE436 := n4_; have NB435_436 := n5_; have NB436_435 := n6_; clear n0_ n1_ n2_ n3_ n4_ n5_ n6_; clear hb hbox hg) | ((with_reducible refine gate_dst (N := 4) rfl ?_); refine bE 4 #[.int .i64 0, .int .i64 0] 33 ?_; intro gb437 hg w6 hbox hb; have n0_ := am (Kb (bB BK435.out) hb); have n1_ := am (Kb (bB BK436.out) hb); have q_ := hbx_ (sB HB.out) hg hb; have n2_ := q_.1; have n3_ := am (hbox); have n4_ := q_.2; have n5_ := n4_; have n6_ := nL hg (bB BK435.out); have n7_ := nR hg (bB BK435.out); have n8_ := nL hg (bB BK436.out); have n9_ := nR hg (bB BK436.out); clear BK435; clear BK436; clear HB; have BK435 := n0_; have BK436 := n1_; have HB := n2_; have BK437 := n3_; have GW437 := n4_; have GE437 := n5_; have NB435_437 := n6_; have NB437_435 := n7_; have NB436_437 := n8_; have NB437_436 := n9_; clear n0_ n1_ n2_ n3_ n4_ n5_ n6_ n7_ n8_ n9_; clear hb hbox hg; have hnb7 := NB435_436.out; have hnc7 := NB436_435.out; have hnb8 := NB435_437.out; have hnc8 := NB437_435.out; obtain ⟨hcz9_0, hcz9_1, hfz9_0, hfz9_1⟩ := blk2 BK435.out) | ((with_reducible refine gate_dst (N := 6) rfl ?_); refine bE 6 #[.int .i64 0, .int .i64 0] 33 ?_; intro gb438 hg w10 hbox hb; have n0_ := am (Kb (bB BK435.out) hb); have n1_ := am (Kb (bB BK436.out) hb); have n2_ := am (Kb (bB BK437.out) hb); have q_ := hbx_ (sB HB.out) hg hb; have n3_ := q_.1; have n4_ := am (hbox); have n5_ := q_.2; have n6_ := n5_; have n7_ := nL hg (bB BK435.out); have n8_ := nR hg (bB BK435.out); have n9_ := nL hg (bB BK436.out); have n10_ := nR hg (bB BK436.out); have n11_ := nL hg (bB BK437.out); have n12_ := nR hg (bB BK437.out); clear BK435; clear BK436; clear BK437; clear HB; have BK435 := n0_; have BK436 := n1_; have BK437 := n2_; have HB := n3_; have BK438 := n4_; have GW438 := n5_; have GE438 := n6_; have NB435_438 := n7_; have NB438_435 := n8_; have NB436_438 := n9_; have NB438_436 := n10_; have NB437_438 := n11_; have NB438_437 := n12_; clear n0_ n1_ n2_ n3_ n4_ n5_ n6_ n7_ n8_ n9_ n10_ n11_ n12_; clear hb hbox hg; have hnb11 := NB438_435.out; have hnc11 := NB435_438.out; have hnb12 := NB438_436.out; have hnc12 := NB436_438.out; have hnb13 := NB438_437.out; have hnc13 := NB437_438.out; obtain ⟨hcz14_0, hcz14_1, hfz14_0, hfz14_1⟩ := blk2 BK438.out; have hnb15 := NB436_437.out; have hnc15 := NB437_436.out; obtain ⟨hcz16_0, hcz16_1, hfz16_0, hfz16_1⟩ := blk2 BK436.out))
 (try simp only [Act.put, List.setIfInBounds_toArray, List.set_cons_zero, List.set_cons_succ])
 go_cut [] (fun wc => ∃ (kq : Nat) (x439000_2 : Int), Aside0 (spec_MeetPatterns.j0 kq a0_0 a0_1 a1_0 a1_1 x439000_2 a0_1 = some (r1, r2, r3)) ∧ Aside0 (kq ≤ k) ∧ Aside0 (wc.heap[gb435]? = some (.cells #[.int .i64 a0_0, .int .i64 a0_1] 33 (0, 0))) ∧ Aside0 (wc.heap[gb436]? = some (.cells #[.int .i64 a1_0, .int .i64 a1_1] 33 (0, 0))) ∧ Aside0 (wc.heap[gb437]? = some (.cells #[.int .i64 0, .int .i64 0] 33 (0, 0))) ∧ Aside0 (wc.heap[gb438]? = some (.cells #[.int .i64 x439000_2, .int .i64 a0_1] 33 (0, 0))) ∧ Aside0 (Below w.heap.size w wc))
 case first =>
  have H := HC3.out
  clear HC3
  by_cases c17 : a1_0 = 0
  ·rw [if_pos c17] at H
   have c17b0 : (a1_0 == 0) = true := beq_iff_eq.mpr c17
   have c17b1 : (a1_0 != 0) = false := bne_eq_false_iff_eq.mpr c17
   clear c17
   (first | rw [c17b0] | (simp only [i64_w, i32_w]; rw [c17b0]) | skip)
   have H' := am H
   clear H
   go_wp2
   go_meet
   case rel => exact ⟨_, (a0_0), H', ⟨by first | omega | exact Nat.le_refl _⟩, ⟨by refine bB ?_; refine blk_far ?_ NB435_438.out _; refine bB ?_; refine blk_far ?_ NB435_438.out _; refine bB ?_; exact BK435.out⟩, ⟨by refine bB ?_; refine blk_far ?_ NB436_438.out _; refine bB ?_; refine blk_far ?_ NB436_438.out _; refine bB ?_; exact BK436.out⟩, ⟨by refine bB ?_; refine blk_far ?_ NB437_438.out _; refine bB ?_; refine blk_far ?_ NB437_438.out _; refine bB ?_; exact BK437.out⟩, ⟨by refine bB ?_; refine Kg (cs := #[.int .i64 a0_0, .int .i64 0]) ?_ 1 _ rfl; refine bB ?_; refine Kg (cs := #[.int .i64 0, .int .i64 0]) ?_ 0 _ rfl; refine bB ?_; exact BK438.out⟩, ⟨sB HB.out⟩⟩
  ·rw [if_neg c17] at H
   have c17b0 : (a1_0 == 0) = false := beq_eq_false_iff_ne.mpr c17
   have c17b1 : (a1_0 != 0) = true := bne_iff_ne.mpr c17
   (first | rw [c17b0] | (simp only [i64_w, i32_w]; rw [c17b0]) | skip)
   have H' := am H
   clear H
   have hnb18 := NB436_435.out
   have hnc18 := NB435_436.out
   have hnb19 := NB436_437.out
   have hnc19 := NB437_436.out
   have hnb20 := NB436_438.out
   have hnc20 := NB438_436.out
   have hcz21_0 : w10.cell? ⟨gb436, 0, none⟩ = some (.int .i64 a1_0) := (Kk BK436.out 0).trans rfl
   have hcz21_1 : w10.cell? ⟨gb436, 1, none⟩ = some (.int .i64 a1_1) := (Kk BK436.out 1).trans rfl
   have hfz21_0 := Kr BK436.out 0
   have hfz21_1 := Kr BK436.out 1
   have hnb22 := NB438_435.out
   have hnc22 := NB435_438.out
   have hnb23 := NB438_437.out
   have hnc23 := NB437_438.out
   have hcz24_0 : w10.cell? ⟨gb438, 0, none⟩ = some (.int .i64 0) := (Kk BK438.out 0).trans rfl
   have hcz24_1 : w10.cell? ⟨gb438, 1, none⟩ = some (.int .i64 0) := (Kk BK438.out 1).trans rfl
   have hfz24_0 := Kr BK438.out 0
   have hfz24_1 := Kr BK438.out 1
   go_wp2
   go_meet
   case rel => exact ⟨_, (a1_0), H', ⟨by first | omega | exact Nat.le_refl _⟩, ⟨by refine bB ?_; refine blk_far ?_ NB435_438.out _; refine bB ?_; refine blk_far ?_ NB435_438.out _; refine bB ?_; refine blk_far ?_ NB435_438.out _; refine bB ?_; exact BK435.out⟩, ⟨by refine bB ?_; refine blk_far ?_ NB436_438.out _; refine bB ?_; refine blk_far ?_ NB436_438.out _; refine bB ?_; refine blk_far ?_ NB436_438.out _; refine bB ?_; exact BK436.out⟩, ⟨by refine bB ?_; refine blk_far ?_ NB437_438.out _; refine bB ?_; refine blk_far ?_ NB437_438.out _; refine bB ?_; refine blk_far ?_ NB437_438.out _; refine bB ?_; exact BK437.out⟩, ⟨by refine bB ?_; refine Kg (cs := #[.int .i64 a0_0, .int .i64 a0_1]) ?_ 0 _ rfl; refine bB ?_; refine Kg (cs := #[.int .i64 a0_0, .int .i64 0]) ?_ 1 _ rfl; refine bB ?_; refine Kg (cs := #[.int .i64 0, .int .i64 0]) ?_ 0 _ rfl; refine bB ?_; exact BK438.out⟩, ⟨sB HB.out⟩⟩
 case rest =>
  clear HC3
  try clear c1
  try clear c2
  try clear p2
  try clear c6
  try clear c7
  try clear c8
  try clear c11
  try clear c12
  try clear c13
  try clear c15
  try clear c17
  try clear c17b0
  try clear c17b1
  try clear c18
  try clear c19
  try clear c20
  try clear c22
  try clear c23
  try clear hcz14_0 hcz14_1
  try clear hcz16_0 hcz16_1
  try clear hcz21_0 hcz21_1
  try clear hcz24_0 hcz24_1
  try clear hcz9_0 hcz9_1
  try clear hfz14_0 hfz14_1
  try clear hfz16_0 hfz16_1
  try clear hfz21_0 hfz21_1
  try clear hfz24_0 hfz24_1
  try clear hfz9_0 hfz9_1
  obtain ⟨kq, x439000_2, HA, HJ2, BK435, BK436, BK437, BK438, HB⟩ := hcut
  cases kq with
  | zero => exact absurd HA.out (by simp [spec_MeetPatterns.j0])
  | succ kj2 =>
   have H := HA.out
   clear HA
   simp only [spec_MeetPatterns.j0] at H
   have HC25 := am H
   clear H
   have hnb26 := NB436_435.out
   have hnc26 := NB435_436.out
   have hnb27 := NB436_437.out
   have hnc27 := NB437_436.out
   have hnb28 := NB436_438.out
   have hnc28 := NB438_436.out
   have hcz29_0 : wc.cell? ⟨gb436, 0, none⟩ = some (.int .i64 a1_0) := (Kk BK436.out 0).trans rfl
   have hcz29_1 : wc.cell? ⟨gb436, 1, none⟩ = some (.int .i64 a1_1) := (Kk BK436.out 1).trans rfl
   have hfz29_0 := Kr BK436.out 0
   have hfz29_1 := Kr BK436.out 1
   go_upto_if 16 with (fail)
   go_cut [] (fun wc => ∃ (kq : Nat) (x439001_24 : Int), Aside0 (spec_MeetPatterns.j1 kq a0_0 a0_1 a1_0 a1_1 x439000_2 x439001_24 = some (r1, r2, r3)) ∧ Aside0 (kq ≤ kj2) ∧ Aside0 (wc.heap[gb435]? = some (.cells #[.int .i64 a0_0, .int .i64 a0_1] 33 (0, 0))) ∧ Aside0 (wc.heap[gb436]? = some (.cells #[.int .i64 a1_0, .int .i64 a1_1] 33 (0, 0))) ∧ Aside0 (wc.heap[gb437]? = some (.cells #[.int .i64 0, .int .i64 0] 33 (0, 0))) ∧ Aside0 (wc.heap[gb438]? = some (.cells #[.int .i64 x439000_2, .int .i64 x439001_24] 33 (0, 0))) ∧ Aside0 (Below w.heap.size w wc))
   case first =>
    have H := HC25.out
    clear HC25
    by_cases c30 : a1_1 = (-1)
    ·rw [if_pos c30] at H
     have c30b0 : (a1_1 == (-1)) = true := beq_iff_eq.mpr c30
     have c30b1 : (a1_1 != (-1)) = false := bne_eq_false_iff_eq.mpr c30
     clear c30
     (first | rw [c30b0] | (simp only [i64_w, i32_w]; rw [c30b0]) | skip)
     have H' := am H
     clear H
     go_wp2
     go_meet
     case rel => exact ⟨_, (a0_1), H', ⟨by have := HJ2.out; first | omega | exact Nat.le_refl _⟩, ⟨bB BK435.out⟩, ⟨bB BK436.out⟩, ⟨bB BK437.out⟩, ⟨bB BK438.out⟩, ⟨sB HB.out⟩⟩
    ·rw [if_neg c30] at H
     have c30b0 : (a1_1 == (-1)) = false := beq_eq_false_iff_ne.mpr c30
     have c30b1 : (a1_1 != (-1)) = true := bne_iff_ne.mpr c30
     (first | rw [c30b0] | (simp only [i64_w, i32_w]; rw [c30b0]) | skip)
     have H' := am H
     clear H
     have hnb31 := NB436_435.out
     have hnc31 := NB435_436.out
     have hnb32 := NB436_437.out
     have hnc32 := NB437_436.out
     have hnb33 := NB436_438.out
     have hnc33 := NB438_436.out
     have hcz34_0 : wc.cell? ⟨gb436, 0, none⟩ = some (.int .i64 a1_0) := (Kk BK436.out 0).trans rfl
     have hcz34_1 : wc.cell? ⟨gb436, 1, none⟩ = some (.int .i64 a1_1) := (Kk BK436.out 1).trans rfl
     have hfz34_0 := Kr BK436.out 0
     have hfz34_1 := Kr BK436.out 1
     have hnb35 := NB438_435.out
     have hnc35 := NB435_438.out
     have hnb36 := NB438_437.out
     have hnc36 := NB437_438.out
     have hcz37_0 : wc.cell? ⟨gb438, 0, none⟩ = some (.int .i64 x439000_2) := (Kk BK438.out 0).trans rfl
     have hcz37_1 : wc.cell? ⟨gb438, 1, none⟩ = some (.int .i64 a0_1) := (Kk BK438.out 1).trans rfl
     have hfz37_0 := Kr BK438.out 0
     have hfz37_1 := Kr BK438.out 1
     go_wp2
     go_meet
     case rel => exact ⟨_, (a1_1), H', ⟨by have := HJ2.out; first | omega | exact Nat.le_refl _⟩, ⟨by refine bB ?_; refine blk_far ?_ NB435_438.out _; refine bB ?_; exact BK435.out⟩, ⟨by refine bB ?_; refine blk_far ?_ NB436_438.out _; refine bB ?_; exact BK436.out⟩, ⟨by refine bB ?_; refine blk_far ?_ NB437_438.out _; refine bB ?_; exact BK437.out⟩, ⟨by refine bB ?_; refine Kg (cs := #[.int .i64 x439000_2, .int .i64 a0_1]) ?_ 1 _ rfl; refine bB ?_; exact BK438.out⟩, ⟨sB HB.out⟩⟩
   case rest =>
    clear HC25
    try clear c1
    try clear c2
    try clear p2
    try clear c3
    try clear c6
    try clear c7
    try clear c8
    try clear c11
    try clear c12
    try clear c13
    try clear c15
    try clear c17
    try clear c17b0
    try clear c17b1
    try clear c18
    try clear c19
    try clear c20
    try clear c22
    try clear c23
    try clear c26
    try clear c27
    try clear c28
    try clear c30
    try clear c30b0
    try clear c30b1
    try clear c31
    try clear c32
    try clear c33
    try clear c35
    try clear c36
    try clear hcz14_0 hcz14_1
    try clear hcz16_0 hcz16_1
    try clear hcz21_0 hcz21_1
    try clear hcz24_0 hcz24_1
    try clear hcz29_0 hcz29_1
    try clear hcz34_0 hcz34_1
    try clear hcz37_0 hcz37_1
    try clear hcz9_0 hcz9_1
    try clear hfz14_0 hfz14_1
    try clear hfz16_0 hfz16_1
    try clear hfz21_0 hfz21_1
    try clear hfz24_0 hfz24_1
    try clear hfz29_0 hfz29_1
    try clear hfz34_0 hfz34_1
    try clear hfz37_0 hfz37_1
    try clear hfz9_0 hfz9_1
    try clear p2
    obtain ⟨kq, x439001_24, HA, HJ24, BK435, BK436, BK437, BK438, HB⟩ := hcut
    cases kq with
    | zero => exact absurd HA.out (by simp [spec_MeetPatterns.j1])
    | succ kj24 =>
     have H := HA.out
     clear HA
     simp only [spec_MeetPatterns.j1] at H
     replace H := bO H
     obtain ⟨t439, A38, H⟩ := H
     by_cases c39 : t439 = true
     ·subst c39
      replace H := hT H
      replace H := bO H
      obtain ⟨t440, A40, H⟩ := H
      by_cases c41 : t440 = true
      ·subst c41
       replace H := hT H
       simp only [Option.some.injEq, Prod.mk.injEq] at H
       obtain ⟨rfl, rfl, rfl⟩ := H
       have hnb42 := NB438_435.out
       have hnc42 := NB435_438.out
       have hnb43 := NB438_436.out
       have hnc43 := NB436_438.out
       have hnb44 := NB438_437.out
       have hnc44 := NB437_438.out
       have hcz45_0 : wc.cell? ⟨gb438, 0, none⟩ = some (.int .i64 x439000_2) := (Kk BK438.out 0).trans rfl
       have hcz45_1 : wc.cell? ⟨gb438, 1, none⟩ = some (.int .i64 x439001_24) := (Kk BK438.out 1).trans rfl
       have hfz45_0 := Kr BK438.out 0
       have hfz45_1 := Kr BK438.out 1
       have hnb46 := NB435_436.out
       have hnc46 := NB436_435.out
       have hnb47 := NB435_437.out
       have hnc47 := NB437_435.out
       have hcz48_0 : wc.cell? ⟨gb435, 0, none⟩ = some (.int .i64 a0_0) := (Kk BK435.out 0).trans rfl
       have hcz48_1 : wc.cell? ⟨gb435, 1, none⟩ = some (.int .i64 a0_1) := (Kk BK435.out 1).trans rfl
       have hfz48_0 := Kr BK435.out 0
       have hfz48_1 := Kr BK435.out 1
       go_wp2_with (first | ((with_reducible refine gate_callee (f := 72) rfl ?_); refine gL (some 22) Try.func72 #[.agg #[.int .i64 x439000_2, .int .i64 x439001_24], .agg #[.int .i64 a0_0, .int .i64 a0_1]] ?_; (with_reducible refine (spec_IsNarrower.calls x439000_2 x439001_24 a0_0 a0_1 true _ A38.out).mono ?_); rintro e w49 ⟨rfl, hb⟩; refine ⟨_, rfl, ?_⟩; replace BK435 := am (Kb (bB BK435.out) hb); replace BK436 := am (Kb (bB BK436.out) hb); replace BK437 := am (Kb (bB BK437.out) hb); replace BK438 := am (Kb (bB BK438.out) hb); replace HB := am (Kh (sB HB.out) hb); (try clear hb); obtain ⟨hcz50_0, hcz50_1, hfz50_0, hfz50_1⟩ := blk2 BK438.out; have hnb51 := NB436_437.out; have hnc51 := NB437_436.out; obtain ⟨hcz52_0, hcz52_1, hfz52_0, hfz52_1⟩ := blk2 BK436.out) | (go_at_call 72; (with_reducible refine (spec_IsNarrower.calls x439000_2 x439001_24 a1_0 a1_1 true _ A40.out).mono ?_); rintro e w53 ⟨rfl, hb⟩; replace BK435 := am (Kb (bB BK435.out) hb); replace BK436 := am (Kb (bB BK436.out) hb); replace BK437 := am (Kb (bB BK437.out) hb); replace BK438 := am (Kb (bB BK438.out) hb); replace HB := am (Kh (sB HB.out) hb); (try clear hb); obtain ⟨hcz54_0, hcz54_1, hfz54_0, hfz54_1⟩ := blk2 BK438.out; obtain ⟨hcz55_0, hcz55_1, hfz55_0, hfz55_1⟩ := blk2 BK437.out))
       refine bodyPost_ret (results_ct rfl _ _ gb437 33 #[.int .i64 x439000_2, .int .i64 x439001_24] (0, 0) _ rfl (by refine bB ?_; refine Kg (cs := #[.int .i64 x439000_2, .int .i64 0]) ?_ 1 _ rfl; refine bB ?_; refine Kg (cs := #[.int .i64 0, .int .i64 0]) ?_ 0 _ rfl; refine bB ?_; exact BK437.out) Try.underlying33 rfl (by kernel_rfl)) rfl ?_
       exact lf (sB HB.out)
      ·replace c41 := bF c41
       subst c41
       replace H := hF H
       simp only [Option.some.injEq, Prod.mk.injEq] at H
       obtain ⟨rfl, rfl, rfl⟩ := H
       have hnb56 := NB438_435.out
       have hnc56 := NB435_438.out
       have hnb57 := NB438_436.out
       have hnc57 := NB436_438.out
       have hnb58 := NB438_437.out
       have hnc58 := NB437_438.out
       have hcz59_0 : wc.cell? ⟨gb438, 0, none⟩ = some (.int .i64 x439000_2) := (Kk BK438.out 0).trans rfl
       have hcz59_1 : wc.cell? ⟨gb438, 1, none⟩ = some (.int .i64 x439001_24) := (Kk BK438.out 1).trans rfl
       have hfz59_0 := Kr BK438.out 0
       have hfz59_1 := Kr BK438.out 1
       have hnb60 := NB435_436.out
       have hnc60 := NB436_435.out
       have hnb61 := NB435_437.out
       have hnc61 := NB437_435.out
       have hcz62_0 : wc.cell? ⟨gb435, 0, none⟩ = some (.int .i64 a0_0) := (Kk BK435.out 0).trans rfl
       have hcz62_1 : wc.cell? ⟨gb435, 1, none⟩ = some (.int .i64 a0_1) := (Kk BK435.out 1).trans rfl
       have hfz62_0 := Kr BK435.out 0
       have hfz62_1 := Kr BK435.out 1
       go_wp2_with (first | ((with_reducible refine gate_callee (f := 72) rfl ?_); refine gL (some 22) Try.func72 #[.agg #[.int .i64 x439000_2, .int .i64 x439001_24], .agg #[.int .i64 a0_0, .int .i64 a0_1]] ?_; (with_reducible refine (spec_IsNarrower.calls x439000_2 x439001_24 a0_0 a0_1 true _ A38.out).mono ?_); rintro e w63 ⟨rfl, hb⟩; refine ⟨_, rfl, ?_⟩; replace BK435 := am (Kb (bB BK435.out) hb); replace BK436 := am (Kb (bB BK436.out) hb); replace BK437 := am (Kb (bB BK437.out) hb); replace BK438 := am (Kb (bB BK438.out) hb); replace HB := am (Kh (sB HB.out) hb); (try clear hb); obtain ⟨hcz64_0, hcz64_1, hfz64_0, hfz64_1⟩ := blk2 BK438.out; have hnb65 := NB436_437.out; have hnc65 := NB437_436.out; obtain ⟨hcz66_0, hcz66_1, hfz66_0, hfz66_1⟩ := blk2 BK436.out) | (go_at_call 72; (with_reducible refine (spec_IsNarrower.calls x439000_2 x439001_24 a1_0 a1_1 false _ A40.out).mono ?_); rintro e w67 ⟨rfl, hb⟩; replace BK435 := am (Kb (bB BK435.out) hb); replace BK436 := am (Kb (bB BK436.out) hb); replace BK437 := am (Kb (bB BK437.out) hb); replace BK438 := am (Kb (bB BK438.out) hb); replace HB := am (Kh (sB HB.out) hb); (try clear hb); obtain ⟨hcz68_0, hcz68_1, hfz68_0, hfz68_1⟩ := blk2 BK437.out))
       refine bodyPost_ret (results_ct rfl _ _ gb437 33 #[.int .i64 0, .int .i64 0] (0, 0) _ rfl (by refine bB ?_; refine Kg (cs := #[.int .i64 0, .int .i64 0]) ?_ 1 _ rfl; refine bB ?_; refine Kg (cs := #[.int .i64 0, .int .i64 0]) ?_ 0 _ rfl; refine bB ?_; exact BK437.out) Try.underlying33 rfl (by kernel_rfl)) rfl ?_
       exact lf (sB HB.out)
     ·replace c39 := bF c39
      subst c39
      replace H := hF H
      simp only [Option.some.injEq, Prod.mk.injEq] at H
      obtain ⟨rfl, rfl, rfl⟩ := H
      have hnb69 := NB438_435.out
      have hnc69 := NB435_438.out
      have hnb70 := NB438_436.out
      have hnc70 := NB436_438.out
      have hnb71 := NB438_437.out
      have hnc71 := NB437_438.out
      have hcz72_0 : wc.cell? ⟨gb438, 0, none⟩ = some (.int .i64 x439000_2) := (Kk BK438.out 0).trans rfl
      have hcz72_1 : wc.cell? ⟨gb438, 1, none⟩ = some (.int .i64 x439001_24) := (Kk BK438.out 1).trans rfl
      have hfz72_0 := Kr BK438.out 0
      have hfz72_1 := Kr BK438.out 1
      have hnb73 := NB435_436.out
      have hnc73 := NB436_435.out
      have hnb74 := NB435_437.out
      have hnc74 := NB437_435.out
      have hcz75_0 : wc.cell? ⟨gb435, 0, none⟩ = some (.int .i64 a0_0) := (Kk BK435.out 0).trans rfl
      have hcz75_1 : wc.cell? ⟨gb435, 1, none⟩ = some (.int .i64 a0_1) := (Kk BK435.out 1).trans rfl
      have hfz75_0 := Kr BK435.out 0
      have hfz75_1 := Kr BK435.out 1
      go_wp2_with (first | ((with_reducible refine gate_callee (f := 72) rfl ?_); refine gL (some 22) Try.func72 #[.agg #[.int .i64 x439000_2, .int .i64 x439001_24], .agg #[.int .i64 a0_0, .int .i64 a0_1]] ?_; (with_reducible refine (spec_IsNarrower.calls x439000_2 x439001_24 a0_0 a0_1 false _ A38.out).mono ?_); rintro e w76 ⟨rfl, hb⟩; refine ⟨_, rfl, ?_⟩; replace BK435 := am (Kb (bB BK435.out) hb); replace BK436 := am (Kb (bB BK436.out) hb); replace BK437 := am (Kb (bB BK437.out) hb); replace BK438 := am (Kb (bB BK438.out) hb); replace HB := am (Kh (sB HB.out) hb); (try clear hb); have hnb77 := NB437_436.out; have hnc77 := NB436_437.out; obtain ⟨hcz78_0, hcz78_1, hfz78_0, hfz78_1⟩ := blk2 BK437.out))
      refine bodyPost_ret (results_ct rfl _ _ gb437 33 #[.int .i64 0, .int .i64 0] (0, 0) _ rfl (by refine bB ?_; refine Kg (cs := #[.int .i64 0, .int .i64 0]) ?_ 1 _ rfl; refine bB ?_; refine Kg (cs := #[.int .i64 0, .int .i64 0]) ?_ 0 _ rfl; refine bB ?_; exact BK437.out) Try.underlying33 rfl (by kernel_rfl)) rfl ?_
      exact lf (sB HB.out)

end Go.Proofs.Ytilneejgliglhaa.QN
