/- Go functions as Lean functions, each with its walk; printed by a program of this session (a scratch copy of print.py that follows nested field addresses and tells a law for the answer true). -/
import Derived.Test.YtilneejgliglhaaQNx0
import Derived.Test.YtilneejgliglhaaQNx35
import Derived.Test.YtilneejgliglhaaQNxM0
namespace Go.Proofs.Ytilneejgliglhaa.QN
open Go.RowKit Go.Proofs.YtilneejgliglhaaW.PrintWords Go.Proofs.YtilneejgliglhaaW.PrintLast Go.Proofs.YtilneejgliglhaaW.PrintMore Go.Proofs.Ytilneejgliglhaa.Short
attribute [local go_sem] max2_int min2_int max_two min_two max_three min_three max_four min_four   -- for this text's walks alone
set_option linter.unusedVariables false
set_option linter.unusedSimpArgs false

/-! ### impl_MeetPatterns: function 40 -/
mutual
def impl_MeetPatterns.j0 : Nat → Bool → Int → Int → Int → Int → Option (Int × Int × Bool)
 | 0, _, _, _, _, _ => none
 | k + 1, x13, x379000, x379001, x380000, x380001 => if x13 = true then (some (0, 0, false)) else (if x379000 = 0 then (impl_MeetPatterns.j1 k x380000 x379001 x380000 x380001) else (impl_MeetPatterns.j1 k x379000 x379001 x380000 x380001))
def impl_MeetPatterns.j1 : Nat → Int → Int → Int → Int → Option (Int × Int × Bool)
 | 0, _, _, _, _ => none
 | k + 1, x379000, x379001, x380000, x380001 => if x379001 = (-1) then ((impl_IsNarrower.f x379000 x380001 x380000 x380001).bind fun t383 => (if t383 = true then (some (x379000, x380001, true)) else (some (0, 0, false)))) else ((impl_IsNarrower.f x379000 x379001 x380000 x380001).bind fun t384 => (if t384 = true then (some (x379000, x379001, true)) else (some (0, 0, false))))
end
def impl_MeetPatterns.f (k : Nat) (a0_0 : Int) (a0_1 : Int) (a1_0 : Int) (a1_1 : Int) : Option (Int × Int × Bool) := (impl_IsPattern.f a0_0 a0_1).bind fun t381 => (if t381 = true then ((impl_IsPattern.f a1_0 a1_1).bind fun t382 => (impl_MeetPatterns.j0 k (!t382) a0_0 a0_1 a1_0 a1_1)) else (impl_MeetPatterns.j0 k true a0_0 a0_1 a1_0 a1_1))
set_option maxHeartbeats 8000000 in
set_option maxRecDepth 100000 in
theorem impl_MeetPatterns.calls (k : Nat) (a0_0 : Int) (a0_1 : Int) (a1_0 : Int) (a1_1 : Int) (r1 : Int) (r2 : Int) (r3 : Bool) (w : World) (h : impl_MeetPatterns.f k a0_0 a0_1 a1_0 a1_1 = some (r1, r2, r3)) :
  Calls Try.prog 40 #[.agg #[.int .i64 a0_0, .int .i64 a0_1], .agg #[.int .i64 a1_0, .int .i64 a1_1]] w fun e w' => e = .returned (.tuple #[.agg #[.int .i64 r1, .int .i64 r2], .bool r3]) ∧ Below w.heap.size w w' := by
 have hu33 := Try.underlying33
 have HB := am (Below.refl w.heap.size w)
 unfold impl_MeetPatterns.f at h
 have H := h
 clear h
 have HC3 := am H
 clear H
 go_enter Try.func40, Try.ntmps40
 go_upto_region 1 with (first | ((with_reducible refine gate_dst (N := 2) rfl ?_); refine bE 2 #[.int .i64 a0_0, .int .i64 a0_1] 33 ?_; intro gb378 hg w4 hbox hb; have q_ := hbx_ (sB HB.out) hg hb; have n0_ := q_.1; have n1_ := am (hbox); have n2_ := q_.2; have n3_ := n2_; clear HB; have HB := n0_; have BK378 := n1_; have GW378 := n2_; have GE378 := n3_; clear n0_ n1_ n2_ n3_ hb hbox hg) | ((with_reducible refine gate_dst (N := 3) rfl ?_); refine bE 3 #[.int .i64 a1_0, .int .i64 a1_1] 33 ?_; intro gb379 hg w5 hbox hb; have n0_ := am (Kb (bB BK378.out) hb); have q_ := hbx_ (sB HB.out) hg hb; have n1_ := q_.1; have n2_ := am (hbox); have n3_ := q_.2; have n4_ := n3_; have n5_ := nL hg (bB BK378.out); have n6_ := nR hg (bB BK378.out); clear BK378; clear HB; have BK378 := n0_; have HB := n1_; have BK379 := n2_; have GW379 := n3_; have GE379 := n4_; have NB378_379 := n5_; have NB379_378 := n6_; clear n0_ n1_ n2_ n3_ n4_ n5_ n6_; clear hb hbox hg) | ((with_reducible refine gate_dst (N := 4) rfl ?_); refine bE 4 #[.int .i64 0, .int .i64 0] 33 ?_; intro gb380 hg w6 hbox hb; have n0_ := am (Kb (bB BK378.out) hb); have n1_ := am (Kb (bB BK379.out) hb); have q_ := hbx_ (sB HB.out) hg hb; have n2_ := q_.1; have n3_ := am (hbox); have n4_ := q_.2; have n5_ := n4_; have n6_ := nL hg (bB BK378.out); have n7_ := nR hg (bB BK378.out); have n8_ := nL hg (bB BK379.out); have n9_ := nR hg (bB BK379.out); clear BK378; clear BK379; clear HB; have BK378 := n0_; have BK379 := n1_; have HB := n2_; have BK380 := n3_; have GW380 := n4_; have GE380 := n5_; have NB378_380 := n6_; have NB380_378 := n7_; have NB379_380 := n8_; have NB380_379 := n9_; clear n0_ n1_ n2_ n3_ n4_ n5_ n6_ n7_ n8_ n9_; clear hb hbox hg))
 (try simp only [Act.put, List.setIfInBounds_toArray, List.set_cons_zero, List.set_cons_succ])
 go_cut [13] (fun v13 wc => ∃ (kq : Nat) (x13_2 : Bool), v13 = .bool x13_2 ∧ Aside0 (impl_MeetPatterns.j0 kq x13_2 a0_0 a0_1 a1_0 a1_1 = some (r1, r2, r3)) ∧ Aside0 (kq ≤ k) ∧ Aside0 (wc.heap[gb378]? = some (.cells #[.int .i64 a0_0, .int .i64 a0_1] 33 (0, 0))) ∧ Aside0 (wc.heap[gb379]? = some (.cells #[.int .i64 a1_0, .int .i64 a1_1] 33 (0, 0))) ∧ Aside0 (wc.heap[gb380]? = some (.cells #[.int .i64 0, .int .i64 0] 33 (0, 0))) ∧ Aside0 (Below w.heap.size w wc))
 case first =>
  have H := HC3.out
  clear HC3
  replace H := bO H
  obtain ⟨t381, A7, H⟩ := H
  by_cases c8 : t381 = true
  ·subst c8
   replace H := hT H
   replace H := bO H
   obtain ⟨t382, A9, H⟩ := H
   have H' := am H
   clear H
   have hnb10 := NB378_379.out
   have hnc10 := NB379_378.out
   have hnb11 := NB378_380.out
   have hnc11 := NB380_378.out
   have hcz12_0 : w6.cell? ⟨gb378, 0, none⟩ = some (.int .i64 a0_0) := (Kk BK378.out 0).trans rfl
   have hcz12_1 : w6.cell? ⟨gb378, 1, none⟩ = some (.int .i64 a0_1) := (Kk BK378.out 1).trans rfl
   have hfz12_0 := Kr BK378.out 0
   have hfz12_1 := Kr BK378.out 1
   go_wp2_with (first | ((with_reducible refine gate_callee (f := 44) rfl ?_); refine gL (some 7) Try.func44 #[.agg #[.int .i64 a0_0, .int .i64 a0_1]] ?_; (with_reducible refine (impl_IsPattern.calls a0_0 a0_1 true _ A7.out).mono ?_); rintro e w13 ⟨rfl, hb⟩; refine ⟨_, rfl, ?_⟩; replace BK378 := am (Kb (bB BK378.out) hb); replace BK379 := am (Kb (bB BK379.out) hb); replace BK380 := am (Kb (bB BK380.out) hb); replace HB := am (Kh (sB HB.out) hb); (try clear hb); have hnb14 := NB379_380.out; have hnc14 := NB380_379.out; obtain ⟨hcz15_0, hcz15_1, hfz15_0, hfz15_1⟩ := blk2 BK379.out) | (go_at_call 44; (with_reducible refine (impl_IsPattern.calls a1_0 a1_1 t382 _ A9.out).mono ?_); rintro e w16 ⟨rfl, hb⟩; replace BK378 := am (Kb (bB BK378.out) hb); replace BK379 := am (Kb (bB BK379.out) hb); replace BK380 := am (Kb (bB BK380.out) hb); replace HB := am (Kh (sB HB.out) hb); (try clear hb)))
   go_meet
   case rel => exact ⟨_, (!t382), (by first | rfl | (simp; done) | (simp [*]; done)), H', ⟨by first | omega | exact Nat.le_refl _⟩, ⟨bB BK378.out⟩, ⟨bB BK379.out⟩, ⟨bB BK380.out⟩, ⟨sB HB.out⟩⟩
  ·replace c8 := bF c8
   subst c8
   replace H := hF H
   have H' := am H
   clear H
   have hnb17 := NB378_379.out
   have hnc17 := NB379_378.out
   have hnb18 := NB378_380.out
   have hnc18 := NB380_378.out
   have hcz19_0 : w6.cell? ⟨gb378, 0, none⟩ = some (.int .i64 a0_0) := (Kk BK378.out 0).trans rfl
   have hcz19_1 : w6.cell? ⟨gb378, 1, none⟩ = some (.int .i64 a0_1) := (Kk BK378.out 1).trans rfl
   have hfz19_0 := Kr BK378.out 0
   have hfz19_1 := Kr BK378.out 1
   go_wp2_with (first | ((with_reducible refine gate_callee (f := 44) rfl ?_); refine gL (some 7) Try.func44 #[.agg #[.int .i64 a0_0, .int .i64 a0_1]] ?_; (with_reducible refine (impl_IsPattern.calls a0_0 a0_1 false _ A7.out).mono ?_); rintro e w20 ⟨rfl, hb⟩; refine ⟨_, rfl, ?_⟩; replace BK378 := am (Kb (bB BK378.out) hb); replace BK379 := am (Kb (bB BK379.out) hb); replace BK380 := am (Kb (bB BK380.out) hb); replace HB := am (Kh (sB HB.out) hb); (try clear hb)))
   go_meet
   case rel => exact ⟨_, (true), (by first | rfl | (simp; done) | (simp [*]; done)), H', ⟨by first | omega | exact Nat.le_refl _⟩, ⟨bB BK378.out⟩, ⟨bB BK379.out⟩, ⟨bB BK380.out⟩, ⟨sB HB.out⟩⟩
 case rest =>
  clear HC3
  try clear c1
  try clear p2
  try clear c4
  try clear c8
  try clear c10
  try clear c11
  try clear c14
  try clear c17
  try clear c18
  try clear hcz12_0 hcz12_1
  try clear hcz15_0 hcz15_1
  try clear hcz19_0 hcz19_1
  try clear hfz12_0 hfz12_1
  try clear hfz15_0 hfz15_1
  try clear hfz19_0 hfz19_1
  obtain ⟨kq, x13_2, rfl, HA, HJ2, BK378, BK379, BK380, HB⟩ := hcut
  cases kq with
  | zero => exact absurd HA.out (by simp [impl_MeetPatterns.j0])
  | succ kj2 =>
   have H := HA.out
   clear HA
   simp only [impl_MeetPatterns.j0] at H
   by_cases c21 : x13_2 = true
   ·subst c21
    replace H := hT H
    simp only [Option.some.injEq, Prod.mk.injEq] at H
    obtain ⟨rfl, rfl, rfl⟩ := H
    have hnb22 := NB380_378.out
    have hnc22 := NB378_380.out
    have hnb23 := NB380_379.out
    have hnc23 := NB379_380.out
    have hcz24_0 : wc.cell? ⟨gb380, 0, none⟩ = some (.int .i64 0) := (Kk BK380.out 0).trans rfl
    have hcz24_1 : wc.cell? ⟨gb380, 1, none⟩ = some (.int .i64 0) := (Kk BK380.out 1).trans rfl
    have hfz24_0 := Kr BK380.out 0
    have hfz24_1 := Kr BK380.out 1
    go_wp2
    refine bodyPost_ret (results_ct rfl _ _ gb380 33 #[.int .i64 0, .int .i64 0] (0, 0) _ rfl (by refine bB ?_; refine Kg (cs := #[.int .i64 0, .int .i64 0]) ?_ 1 _ rfl; refine bB ?_; refine Kg (cs := #[.int .i64 0, .int .i64 0]) ?_ 0 _ rfl; refine bB ?_; exact BK380.out) Try.underlying33 rfl (by kernel_rfl)) rfl ?_
    exact lf (sB HB.out)
   ·replace c21 := bF c21
    subst c21
    replace H := hF H
    have HC25 := am H
    clear H
    have hnb26 := NB378_379.out
    have hnc26 := NB379_378.out
    have hnb27 := NB378_380.out
    have hnc27 := NB380_378.out
    have hcz28_0 : wc.cell? ⟨gb378, 0, none⟩ = some (.int .i64 a0_0) := (Kk BK378.out 0).trans rfl
    have hcz28_1 : wc.cell? ⟨gb378, 1, none⟩ = some (.int .i64 a0_1) := (Kk BK378.out 1).trans rfl
    have hfz28_0 := Kr BK378.out 0
    have hfz28_1 := Kr BK378.out 1
    go_upto_if 17 with (fail)
    go_cut [] (fun wc => ∃ (kq : Nat) (x379000_24 : Int), Aside0 (impl_MeetPatterns.j1 kq x379000_24 a0_1 a1_0 a1_1 = some (r1, r2, r3)) ∧ Aside0 (kq ≤ kj2) ∧ Aside0 (wc.heap[gb378]? = some (.cells #[.int .i64 x379000_24, .int .i64 a0_1] 33 (0, 0))) ∧ Aside0 (wc.heap[gb379]? = some (.cells #[.int .i64 a1_0, .int .i64 a1_1] 33 (0, 0))) ∧ Aside0 (wc.heap[gb380]? = some (.cells #[.int .i64 0, .int .i64 0] 33 (0, 0))) ∧ Aside0 (Below w.heap.size w wc))
    case first =>
     have H := HC25.out
     clear HC25
     by_cases c29 : a0_0 = 0
     ·rw [if_pos c29] at H
      have c29b0 : (a0_0 == 0) = true := beq_iff_eq.mpr c29
      have c29b1 : (a0_0 != 0) = false := bne_eq_false_iff_eq.mpr c29
      clear c29
      (first | rw [c29b0] | (simp only [i64_w, i32_w]; rw [c29b0]) | skip)
      have H' := am H
      clear H
      have hnb30 := NB379_378.out
      have hnc30 := NB378_379.out
      have hnb31 := NB379_380.out
      have hnc31 := NB380_379.out
      have hcz32_0 : wc.cell? ⟨gb379, 0, none⟩ = some (.int .i64 a1_0) := (Kk BK379.out 0).trans rfl
      have hcz32_1 : wc.cell? ⟨gb379, 1, none⟩ = some (.int .i64 a1_1) := (Kk BK379.out 1).trans rfl
      have hfz32_0 := Kr BK379.out 0
      have hfz32_1 := Kr BK379.out 1
      have hnb33 := NB378_380.out
      have hnc33 := NB380_378.out
      have hcz34_0 : wc.cell? ⟨gb378, 0, none⟩ = some (.int .i64 a0_0) := (Kk BK378.out 0).trans rfl
      have hcz34_1 : wc.cell? ⟨gb378, 1, none⟩ = some (.int .i64 a0_1) := (Kk BK378.out 1).trans rfl
      have hfz34_0 := Kr BK378.out 0
      have hfz34_1 := Kr BK378.out 1
      go_wp2
      go_meet
      case rel => exact ⟨_, (a1_0), H', ⟨by have := HJ2.out; first | omega | exact Nat.le_refl _⟩, ⟨by refine bB ?_; refine Kg (cs := #[.int .i64 a0_0, .int .i64 a0_1]) ?_ 0 _ rfl; refine bB ?_; exact BK378.out⟩, ⟨by refine bB ?_; refine blk_far ?_ NB379_378.out _; refine bB ?_; exact BK379.out⟩, ⟨by refine bB ?_; refine blk_far ?_ NB380_378.out _; refine bB ?_; exact BK380.out⟩, ⟨sB HB.out⟩⟩
     ·rw [if_neg c29] at H
      have c29b0 : (a0_0 == 0) = false := beq_eq_false_iff_ne.mpr c29
      have c29b1 : (a0_0 != 0) = true := bne_iff_ne.mpr c29
      (first | rw [c29b0] | (simp only [i64_w, i32_w]; rw [c29b0]) | skip)
      have H' := am H
      clear H
      go_wp2
      go_meet
      case rel => exact ⟨_, (a0_0), H', ⟨by have := HJ2.out; first | omega | exact Nat.le_refl _⟩, ⟨bB BK378.out⟩, ⟨bB BK379.out⟩, ⟨bB BK380.out⟩, ⟨sB HB.out⟩⟩
    case rest =>
     clear HC25
     try clear c1
     try clear c2
     try clear p2
     try clear c3
     try clear c4
     try clear c8
     try clear c10
     try clear c11
     try clear c14
     try clear c17
     try clear c18
     try clear c21
     try clear c22
     try clear c23
     try clear c26
     try clear c27
     try clear c29
     try clear c29b0
     try clear c29b1
     try clear c30
     try clear c31
     try clear c33
     try clear hcz12_0 hcz12_1
     try clear hcz15_0 hcz15_1
     try clear hcz19_0 hcz19_1
     try clear hcz24_0 hcz24_1
     try clear hcz28_0 hcz28_1
     try clear hcz32_0 hcz32_1
     try clear hcz34_0 hcz34_1
     try clear hfz12_0 hfz12_1
     try clear hfz15_0 hfz15_1
     try clear hfz19_0 hfz19_1
     try clear hfz24_0 hfz24_1
     try clear hfz28_0 hfz28_1
     try clear hfz32_0 hfz32_1
     try clear hfz34_0 hfz34_1
     try clear p2
     obtain ⟨kq, x379000_24, HA, HJ24, BK378, BK379, BK380, HB⟩ := hcut
     cases kq with
     | zero => exact absurd HA.out (by simp [impl_MeetPatterns.j1])
     | succ kj24 =>
      have H := HA.out
      clear HA
      simp only [impl_MeetPatterns.j1] at H
      by_cases c35 : a0_1 = (-1)
      ·rw [if_pos c35] at H
       have c35b0 : (a0_1 == (-1)) = true := beq_iff_eq.mpr c35
       have c35b1 : (a0_1 != (-1)) = false := bne_eq_false_iff_eq.mpr c35
       clear c35
       replace H := bO H
       obtain ⟨t383, A36, H⟩ := H
       by_cases c37 : t383 = true
       ·subst c37
        replace H := hT H
        simp only [Option.some.injEq, Prod.mk.injEq] at H
        obtain ⟨rfl, rfl, rfl⟩ := H
        have hnb38 := NB378_379.out
        have hnc38 := NB379_378.out
        have hnb39 := NB378_380.out
        have hnc39 := NB380_378.out
        have hcz40_0 : wc.cell? ⟨gb378, 0, none⟩ = some (.int .i64 x379000_24) := (Kk BK378.out 0).trans rfl
        have hcz40_1 : wc.cell? ⟨gb378, 1, none⟩ = some (.int .i64 a0_1) := (Kk BK378.out 1).trans rfl
        have hfz40_0 := Kr BK378.out 0
        have hfz40_1 := Kr BK378.out 1
        have hnb41 := NB379_380.out
        have hnc41 := NB380_379.out
        have hcz42_0 : wc.cell? ⟨gb379, 0, none⟩ = some (.int .i64 a1_0) := (Kk BK379.out 0).trans rfl
        have hcz42_1 : wc.cell? ⟨gb379, 1, none⟩ = some (.int .i64 a1_1) := (Kk BK379.out 1).trans rfl
        have hfz42_0 := Kr BK379.out 0
        have hfz42_1 := Kr BK379.out 1
        go_wp2_with (first | ((with_reducible refine gate_callee (f := 42) rfl ?_); refine gL (some 29) Try.func42 #[.agg #[.int .i64 x379000_24, .int .i64 a1_1], .agg #[.int .i64 a1_0, .int .i64 a1_1]] ?_; (with_reducible refine (impl_IsNarrower.calls x379000_24 a1_1 a1_0 a1_1 true _ A36.out).mono ?_); rintro e w43 ⟨rfl, hb⟩; refine ⟨_, rfl, ?_⟩; replace BK378 := am (Kb (g := gb378) (o := .cells #[.int .i64 x379000_24, .int .i64 a1_1] 33 (0, 0)) (by refine bB ?_; refine Kg (cs := #[.int .i64 x379000_24, .int .i64 a0_1]) ?_ 1 _ rfl; refine bB ?_; exact BK378.out) hb); replace BK379 := am (Kb (fB NB379_378.out BK379.out) hb); replace BK380 := am (Kb (fB NB380_378.out BK380.out) hb); replace HB := am (Kh (sB HB.out) hb); (try clear hb); obtain ⟨hcz44_0, hcz44_1, hfz44_0, hfz44_1⟩ := blk2 BK378.out; obtain ⟨hcz45_0, hcz45_1, hfz45_0, hfz45_1⟩ := blk2 BK380.out))
        refine bodyPost_ret (results_ct rfl _ _ gb380 33 #[.int .i64 x379000_24, .int .i64 a1_1] (0, 0) _ rfl (by refine bB ?_; refine Kg (cs := #[.int .i64 x379000_24, .int .i64 0]) ?_ 1 _ rfl; refine bB ?_; refine Kg (cs := #[.int .i64 0, .int .i64 0]) ?_ 0 _ rfl; refine bB ?_; exact BK380.out) Try.underlying33 rfl (by kernel_rfl)) rfl ?_
        exact lf (sB HB.out)
       ·replace c37 := bF c37
        subst c37
        replace H := hF H
        simp only [Option.some.injEq, Prod.mk.injEq] at H
        obtain ⟨rfl, rfl, rfl⟩ := H
        have hnb46 := NB378_379.out
        have hnc46 := NB379_378.out
        have hnb47 := NB378_380.out
        have hnc47 := NB380_378.out
        have hcz48_0 : wc.cell? ⟨gb378, 0, none⟩ = some (.int .i64 x379000_24) := (Kk BK378.out 0).trans rfl
        have hcz48_1 : wc.cell? ⟨gb378, 1, none⟩ = some (.int .i64 a0_1) := (Kk BK378.out 1).trans rfl
        have hfz48_0 := Kr BK378.out 0
        have hfz48_1 := Kr BK378.out 1
        have hnb49 := NB379_380.out
        have hnc49 := NB380_379.out
        have hcz50_0 : wc.cell? ⟨gb379, 0, none⟩ = some (.int .i64 a1_0) := (Kk BK379.out 0).trans rfl
        have hcz50_1 : wc.cell? ⟨gb379, 1, none⟩ = some (.int .i64 a1_1) := (Kk BK379.out 1).trans rfl
        have hfz50_0 := Kr BK379.out 0
        have hfz50_1 := Kr BK379.out 1
        go_wp2_with (first | ((with_reducible refine gate_callee (f := 42) rfl ?_); refine gL (some 29) Try.func42 #[.agg #[.int .i64 x379000_24, .int .i64 a1_1], .agg #[.int .i64 a1_0, .int .i64 a1_1]] ?_; (with_reducible refine (impl_IsNarrower.calls x379000_24 a1_1 a1_0 a1_1 false _ A36.out).mono ?_); rintro e w51 ⟨rfl, hb⟩; refine ⟨_, rfl, ?_⟩; replace BK378 := am (Kb (g := gb378) (o := .cells #[.int .i64 x379000_24, .int .i64 a1_1] 33 (0, 0)) (by refine bB ?_; refine Kg (cs := #[.int .i64 x379000_24, .int .i64 a0_1]) ?_ 1 _ rfl; refine bB ?_; exact BK378.out) hb); replace BK379 := am (Kb (fB NB379_378.out BK379.out) hb); replace BK380 := am (Kb (fB NB380_378.out BK380.out) hb); replace HB := am (Kh (sB HB.out) hb); (try clear hb); obtain ⟨hcz52_0, hcz52_1, hfz52_0, hfz52_1⟩ := blk2 BK380.out))
        refine bodyPost_ret (results_ct rfl _ _ gb380 33 #[.int .i64 0, .int .i64 0] (0, 0) _ rfl (by refine bB ?_; refine Kg (cs := #[.int .i64 0, .int .i64 0]) ?_ 1 _ rfl; refine bB ?_; refine Kg (cs := #[.int .i64 0, .int .i64 0]) ?_ 0 _ rfl; refine bB ?_; exact BK380.out) Try.underlying33 rfl (by kernel_rfl)) rfl ?_
        exact lf (sB HB.out)
      ·rw [if_neg c35] at H
       have c35b0 : (a0_1 == (-1)) = false := beq_eq_false_iff_ne.mpr c35
       have c35b1 : (a0_1 != (-1)) = true := bne_iff_ne.mpr c35
       replace H := bO H
       obtain ⟨t384, A53, H⟩ := H
       by_cases c54 : t384 = true
       ·subst c54
        replace H := hT H
        simp only [Option.some.injEq, Prod.mk.injEq] at H
        obtain ⟨rfl, rfl, rfl⟩ := H
        have hnb55 := NB378_379.out
        have hnc55 := NB379_378.out
        have hnb56 := NB378_380.out
        have hnc56 := NB380_378.out
        have hcz57_0 : wc.cell? ⟨gb378, 0, none⟩ = some (.int .i64 x379000_24) := (Kk BK378.out 0).trans rfl
        have hcz57_1 : wc.cell? ⟨gb378, 1, none⟩ = some (.int .i64 a0_1) := (Kk BK378.out 1).trans rfl
        have hfz57_0 := Kr BK378.out 0
        have hfz57_1 := Kr BK378.out 1
        have hnb58 := NB379_380.out
        have hnc58 := NB380_379.out
        have hcz59_0 : wc.cell? ⟨gb379, 0, none⟩ = some (.int .i64 a1_0) := (Kk BK379.out 0).trans rfl
        have hcz59_1 : wc.cell? ⟨gb379, 1, none⟩ = some (.int .i64 a1_1) := (Kk BK379.out 1).trans rfl
        have hfz59_0 := Kr BK379.out 0
        have hfz59_1 := Kr BK379.out 1
        go_wp2_with (first | ((with_reducible refine gate_callee (f := 42) rfl ?_); refine gL (some 29) Try.func42 #[.agg #[.int .i64 x379000_24, .int .i64 a0_1], .agg #[.int .i64 a1_0, .int .i64 a1_1]] ?_; (with_reducible refine (impl_IsNarrower.calls x379000_24 a0_1 a1_0 a1_1 true _ A53.out).mono ?_); rintro e w60 ⟨rfl, hb⟩; refine ⟨_, rfl, ?_⟩; replace BK378 := am (Kb (bB BK378.out) hb); replace BK379 := am (Kb (bB BK379.out) hb); replace BK380 := am (Kb (bB BK380.out) hb); replace HB := am (Kh (sB HB.out) hb); (try clear hb); obtain ⟨hcz61_0, hcz61_1, hfz61_0, hfz61_1⟩ := blk2 BK378.out; obtain ⟨hcz62_0, hcz62_1, hfz62_0, hfz62_1⟩ := blk2 BK380.out))
        refine bodyPost_ret (results_ct rfl _ _ gb380 33 #[.int .i64 x379000_24, .int .i64 a0_1] (0, 0) _ rfl (by refine bB ?_; refine Kg (cs := #[.int .i64 x379000_24, .int .i64 0]) ?_ 1 _ rfl; refine bB ?_; refine Kg (cs := #[.int .i64 0, .int .i64 0]) ?_ 0 _ rfl; refine bB ?_; exact BK380.out) Try.underlying33 rfl (by kernel_rfl)) rfl ?_
        exact lf (sB HB.out)
       ·replace c54 := bF c54
        subst c54
        replace H := hF H
        simp only [Option.some.injEq, Prod.mk.injEq] at H
        obtain ⟨rfl, rfl, rfl⟩ := H
        have hnb63 := NB378_379.out
        have hnc63 := NB379_378.out
        have hnb64 := NB378_380.out
        have hnc64 := NB380_378.out
        have hcz65_0 : wc.cell? ⟨gb378, 0, none⟩ = some (.int .i64 x379000_24) := (Kk BK378.out 0).trans rfl
        have hcz65_1 : wc.cell? ⟨gb378, 1, none⟩ = some (.int .i64 a0_1) := (Kk BK378.out 1).trans rfl
        have hfz65_0 := Kr BK378.out 0
        have hfz65_1 := Kr BK378.out 1
        have hnb66 := NB379_380.out
        have hnc66 := NB380_379.out
        have hcz67_0 : wc.cell? ⟨gb379, 0, none⟩ = some (.int .i64 a1_0) := (Kk BK379.out 0).trans rfl
        have hcz67_1 : wc.cell? ⟨gb379, 1, none⟩ = some (.int .i64 a1_1) := (Kk BK379.out 1).trans rfl
        have hfz67_0 := Kr BK379.out 0
        have hfz67_1 := Kr BK379.out 1
        go_wp2_with (first | ((with_reducible refine gate_callee (f := 42) rfl ?_); refine gL (some 29) Try.func42 #[.agg #[.int .i64 x379000_24, .int .i64 a0_1], .agg #[.int .i64 a1_0, .int .i64 a1_1]] ?_; (with_reducible refine (impl_IsNarrower.calls x379000_24 a0_1 a1_0 a1_1 false _ A53.out).mono ?_); rintro e w68 ⟨rfl, hb⟩; refine ⟨_, rfl, ?_⟩; replace BK378 := am (Kb (bB BK378.out) hb); replace BK379 := am (Kb (bB BK379.out) hb); replace BK380 := am (Kb (bB BK380.out) hb); replace HB := am (Kh (sB HB.out) hb); (try clear hb); obtain ⟨hcz69_0, hcz69_1, hfz69_0, hfz69_1⟩ := blk2 BK380.out))
        refine bodyPost_ret (results_ct rfl _ _ gb380 33 #[.int .i64 0, .int .i64 0] (0, 0) _ rfl (by refine bB ?_; refine Kg (cs := #[.int .i64 0, .int .i64 0]) ?_ 1 _ rfl; refine bB ?_; refine Kg (cs := #[.int .i64 0, .int .i64 0]) ?_ 0 _ rfl; refine bB ?_; exact BK380.out) Try.underlying33 rfl (by kernel_rfl)) rfl ?_
        exact lf (sB HB.out)

end Go.Proofs.Ytilneejgliglhaa.QN
