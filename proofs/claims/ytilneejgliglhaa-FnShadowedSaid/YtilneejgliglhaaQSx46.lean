/- Go functions as Lean functions, each with its walk; printed by a program of this session (a scratch copy of print.py that follows nested field addresses and tells a law for the answer true). -/
import Derived.Test.YtilneejgliglhaaQSx0
import Derived.Test.YtilneejgliglhaaQSx45
namespace Go.Proofs.Ytilneejgliglhaa.QS
open Go.RowKit Go.Proofs.YtilneejgliglhaaW.PrintWords Go.Proofs.YtilneejgliglhaaW.PrintLast Go.Proofs.YtilneejgliglhaaW.PrintMore Go.Proofs.Ytilneejgliglhaa.Short
attribute [local go_sem] max2_int min2_int max_two min_two max_three min_three max_four min_four   -- for this text's walks alone
set_option linter.unusedVariables false
set_option linter.unusedSimpArgs false

/-! ### impl_ClashOf: function 28 -/
mutual
def impl_ClashOf.l0 : Nat → List (S84) → List Int → List Int → Int → Int → Option (Bool)
 | 0, _, _, _, _, _ => none
 | k + 1, x0, x5, x13, x14, x15 => if x15 < x14 then (if 0 ≤ x15 then (if x15 < (x13.length : Int) then (impl_ClashOf.l1 k x0 x5 (rd x13 x15) x13 x14 x15 x5 (x5.length : Int) 0) else (none)) else (none)) else (some false)
def impl_ClashOf.l1 : Nat → List (S84) → List Int → Int → List Int → Int → Int → List Int → Int → Int → Option (Bool)
 | 0, _, _, _, _, _, _, _, _, _ => none
 | k + 1, x0, x5, x7, x13, x14, x15, x19, x20, x21 => if x21 < x20 then (if 0 ≤ x21 then (if x21 < (x19.length : Int) then (if 0 ≤ x7 then (if x7 < (x0.length : Int) then (if 0 ≤ (rd x19 x21) then (if (rd x19 x21) < (x0.length : Int) then (if ((rd_T84 x0 x7).f0) = ((rd_T84 x0 (rd x19 x21)).f0) then (impl_ClashOf.l1 k x0 x5 x7 x13 x14 x15 x19 x20 (wrap64 (x21 + 1))) else (if ((rd_T84 x0 x7).f4) = ((rd_T84 x0 (rd x19 x21)).f4) then (impl_ClashOf.l1 k x0 x5 x7 x13 x14 x15 x19 x20 (wrap64 (x21 + 1))) else (some true))) else (none)) else (none)) else (none)) else (none)) else (none)) else (none)) else (impl_ClashOf.l0 k x0 x5 x13 x14 (wrap64 (x15 + 1)))
end
def impl_ClashOf.f (k : Nat) (l0 : List (S84)) (a1_0 : Int) (a1_1 : Int) (a1_2 : Int) : Option (Bool) := (impl_AppliesTo.f k l0 a1_0 a1_1 a1_2).bind fun t415 => (impl_ClashOf.l0 k l0 t415 t415 (t415.length : Int) 0)
set_option maxHeartbeats 8000000 in
set_option maxRecDepth 100000 in
theorem impl_ClashOf.calls (k : Nat) (A0 : Option Addr) (c0 : Nat) (l0 : List (S84)) (a1_0 : Int) (a1_1 : Int) (a1_2 : Int) (r : Bool) (w : World) (hr0 : Kd.C k84 w A0 l0.length l0) (hc0 : l0.length ≤ c0) (h : impl_ClashOf.f k l0 a1_0 a1_1 a1_2 = some r) :
  Calls Try.prog 28 #[.slice A0 l0.length c0, .agg #[.int .i64 a1_0, .int .i64 a1_1, .int .i64 a1_2]] w fun e w' => e = .returned (.bool r) ∧ Below w.heap.size w w' := by
 have hu50 := Try.underlying50
 have HR0 := Aside0.mk hr0
 have HC0 := Aside0.mk hc0
 clear hr0 hc0
 have HB := am (Below.refl w.heap.size w)
 have H : ((impl_AppliesTo.f k l0 a1_0 a1_1 a1_2).bind fun t415 => (impl_ClashOf.l0 k l0 t415 t415 (t415.length : Int) 0)) = some r := h
 clear h
 replace H := Option.bind_eq_some_iff.mp H
 obtain ⟨t415, A30, H⟩ := H
 replace H : (impl_ClashOf.l0 k l0 t415 t415 (t415.length : Int) 0) = some r := H
 have A3 := Aside0.mk A30
 clear A30
 have H' := Aside0.mk H
 clear H
 go_enter Try.func28, Try.ntmps28
 go_wp2_with (first | ((with_reducible refine gate_dst (N := 3) rfl ?_); refine box_event ?hg (N := 3) ?hd (cs := #[.int .i64 a1_0, .int .i64 a1_1, .int .i64 a1_2]) (t := 50) ?hr ?_; (case hd => rfl); (case hg => rfl); (case hr => first | (go_simp; done) | (go_simp; rfl)); intro gb414 hg w4 hbox hb; have q_ := hbx_ (sB HB.out) hg hb; have n0_ := q_.1; have n1_ := am (hbox); have n2_ := q_.2; have n3_ := n2_; clear HB; have HB := n0_; have BK414 := n1_; have GW414 := n2_; have GE414 := n3_; clear n0_ n1_ n2_ n3_ hb hbox hg; obtain ⟨hcz5_0, hcz5_1, hcz5_2, hfz5_0, hfz5_1, hfz5_2⟩ := blk3 BK414.out) | (go_at_call 27; (with_reducible refine (impl_AppliesTo.calls k _ _ l0 a1_0 a1_1 a1_2 t415 _ ?side1 ?side2 A3.out).mono ?_); (case side1 => exact cB ((Kd.C_below HR0.out HB.out))); (case side2 => exact HC0.out); rintro e w6 ⟨v416, rfl, ho0, hb⟩; have n0_ := am (Kd.R_lower ho0 (below_size (sB HB.out))); have n1_ := am (blk_below (bB BK414.out) hb); have n2_ := am (below_step (sB HB.out) hb); clear BK414; clear HB; have HO417 := n0_; have BK414 := n1_; have HB := n2_; clear n0_ n1_ n2_; (try clear hb); (try clear hb2); (try clear hk); (try clear hi); (try clear ho0); obtain ⟨Ao7, co7, eo7⟩ := Kd.R_slice HO417.out; subst eo7))
 repeat (go_quiet (first | ((with_reducible refine gate_dst (N := 3) rfl ?_); refine box_event ?hg (N := 3) ?hd (cs := #[.int .i64 a1_0, .int .i64 a1_1, .int .i64 a1_2]) (t := 50) ?hr ?_; (case hd => rfl); (case hg => rfl); (case hr => first | (go_simp; done) | (go_simp; rfl)); intro gb414 hg w4 hbox hb; have q_ := hbx_ (sB HB.out) hg hb; have n0_ := q_.1; have n1_ := am (hbox); have n2_ := q_.2; have n3_ := n2_; clear HB; have HB := n0_; have BK414 := n1_; have GW414 := n2_; have GE414 := n3_; clear n0_ n1_ n2_ n3_ hb hbox hg; obtain ⟨hcz5_0, hcz5_1, hcz5_2, hfz5_0, hfz5_1, hfz5_2⟩ := blk3 BK414.out) | (go_at_call 27; (with_reducible refine (impl_AppliesTo.calls k _ _ l0 a1_0 a1_1 a1_2 t415 _ ?side1 ?side2 A3.out).mono ?_); (case side1 => exact cB ((Kd.C_below HR0.out HB.out))); (case side2 => exact HC0.out); rintro e w6 ⟨v416, rfl, ho0, hb⟩; have n0_ := am (Kd.R_lower ho0 (below_size (sB HB.out))); have n1_ := am (blk_below (bB BK414.out) hb); have n2_ := am (below_step (sB HB.out) hb); clear BK414; clear HB; have HO417 := n0_; have BK414 := n1_; have HB := n2_; clear n0_ n1_ n2_; (try clear hb); (try clear hb2); (try clear hk); (try clear hi); (try clear ho0); obtain ⟨Ao7, co7, eo7⟩ := Kd.R_slice HO417.out; subst eo7)); try go_wp2_with (first | ((with_reducible refine gate_dst (N := 3) rfl ?_); refine box_event ?hg (N := 3) ?hd (cs := #[.int .i64 a1_0, .int .i64 a1_1, .int .i64 a1_2]) (t := 50) ?hr ?_; (case hd => rfl); (case hg => rfl); (case hr => first | (go_simp; done) | (go_simp; rfl)); intro gb414 hg w4 hbox hb; have q_ := hbx_ (sB HB.out) hg hb; have n0_ := q_.1; have n1_ := am (hbox); have n2_ := q_.2; have n3_ := n2_; clear HB; have HB := n0_; have BK414 := n1_; have GW414 := n2_; have GE414 := n3_; clear n0_ n1_ n2_ n3_ hb hbox hg; obtain ⟨hcz5_0, hcz5_1, hcz5_2, hfz5_0, hfz5_1, hfz5_2⟩ := blk3 BK414.out) | (go_at_call 27; (with_reducible refine (impl_AppliesTo.calls k _ _ l0 a1_0 a1_1 a1_2 t415 _ ?side1 ?side2 A3.out).mono ?_); (case side1 => exact cB ((Kd.C_below HR0.out HB.out))); (case side2 => exact HC0.out); rintro e w6 ⟨v416, rfl, ho0, hb⟩; have n0_ := am (Kd.R_lower ho0 (below_size (sB HB.out))); have n1_ := am (blk_below (bB BK414.out) hb); have n2_ := am (below_step (sB HB.out) hb); clear BK414; clear HB; have HO417 := n0_; have BK414 := n1_; have HB := n2_; clear n0_ n1_ n2_; (try clear hb); (try clear hb2); (try clear hk); (try clear hi); (try clear ho0); obtain ⟨Ao7, co7, eo7⟩ := Kd.R_slice HO417.out; subst eo7)))
 go_loopg [15] k (fun kq v15 w' => ∃ (x15_1 : Int), v15 = .int .i64 x15_1 ∧ Aside0 (impl_ClashOf.l0 kq l0 t415 t415 (t415.length : Int) x15_1 = some r) ∧ Aside0 (kq ≤ k) ∧ Aside0 (Kd.R (Kd.int .i64) 3 w' w.heap.size (fun _ => True) (.slice Ao7 t415.length co7) t415) ∧ Aside0 (Kd.R (Kd.int .i64) 3 w' w.heap.size (fun _ => True) (.slice Ao7 t415.length co7) t415) ∧ Aside0 (w'.heap[gb414]? = some (.cells #[.int .i64 a1_0, .int .i64 a1_1, .int .i64 a1_2] 50 (0, 0))) ∧ Aside0 (Below w.heap.size w w'))
 case atStart => exact ⟨(0), (by first | rfl | (simp; done) | (simp [*]; done)), H', ⟨Nat.le_refl _⟩, ⟨by (with_reducible repeat (first | apply Kd.R_alloc | apply Kd.R_drewN | apply Kd.R_drew)); exact HO417.out⟩, ⟨by (with_reducible repeat (first | apply Kd.R_alloc | apply Kd.R_drewN | apply Kd.R_drew)); exact HO417.out⟩, ⟨bB BK414.out⟩, ⟨sB HB.out⟩⟩
 case round =>
  clear H'
  try clear c2
  try clear p2
  try clear hcz5_0 hcz5_1 hcz5_2
  try clear hfz5_0 hfz5_1 hfz5_2
  obtain ⟨x15_1, rfl, HA, HK1, HO_5, HO_13, BK414, HB⟩ := hrel
  cases gk with
  | zero => exact absurd HA.out (by simp [impl_ClashOf.l0])
  | succ k1 =>
   have H := HA.out
   clear HA
   simp only [impl_ClashOf.l0] at H
   by_cases c8 : x15_1 < (t415.length : Int)
   ·rw [if_pos c8] at H
    have c8b0 : decide (x15_1 < (t415.length : Int)) = true := decide_eq_true c8
    clear c8
    by_cases c9 : 0 ≤ x15_1
    ·rw [if_pos c9] at H
     have c9b0 : decide (0 ≤ x15_1) = true := decide_eq_true c9
     clear c9
     by_cases c10 : x15_1 < (t415.length : Int)
     ·rw [if_pos c10] at H
      have c10b0 : decide (x15_1 < (t415.length : Int)) = true := decide_eq_true c10
      clear c10
      have H' := Aside0.mk H
      clear H
      have p418 : 0 ≤ (x15_1 : Int) := of_decide_eq_true (by first | (with_reducible assumption) | assumption)
      have q418 : x15_1 < (t415.length : Int) := of_decide_eq_true (by first | (with_reducible assumption) | assumption)
      obtain ⟨ad418, e418, hx418_0⟩ := Kd.at_int (Kd.R_reads' HO_13.out).2.2 x15_1 p418 q418
      cases e418
      replace p418 := eq_true p418
      replace q418 := eq_true q418
      go_wp2
      repeat (go_quiet (fail); try go_wp2)
      go_loopg [21] k1 (fun kq v21 w' => ∃ (x21_2 : Int), v21 = .int .i64 x21_2 ∧ Aside0 (impl_ClashOf.l1 kq l0 t415 (rd t415 x15_1) t415 (t415.length : Int) x15_1 t415 (t415.length : Int) x21_2 = some r) ∧ Aside0 (kq ≤ k1) ∧ Aside0 (Kd.R (Kd.int .i64) 3 w' w.heap.size (fun _ => True) (.slice (some ad418) t415.length co7) t415) ∧ Aside0 (Kd.R (Kd.int .i64) 3 w' w.heap.size (fun _ => True) (.slice (some ad418) t415.length co7) t415) ∧ Aside0 (Kd.R (Kd.int .i64) 3 w' w.heap.size (fun _ => True) (.slice (some ad418) t415.length co7) t415) ∧ Aside0 (w'.heap[gb414]? = some (.cells #[.int .i64 a1_0, .int .i64 a1_1, .int .i64 a1_2] 50 (0, 0))) ∧ Aside0 (Below w.heap.size w w'))
      case atStart => exact ⟨(0), (by first | rfl | (simp; done) | (simp [*]; done)), H', ⟨Nat.le_refl _⟩, ⟨by (with_reducible repeat (first | apply Kd.R_alloc | apply Kd.R_drewN | apply Kd.R_drew)); exact HO_5.out⟩, ⟨by (with_reducible repeat (first | apply Kd.R_alloc | apply Kd.R_drewN | apply Kd.R_drew)); exact HO_13.out⟩, ⟨by (with_reducible repeat (first | apply Kd.R_alloc | apply Kd.R_drewN | apply Kd.R_drew)); exact HO_5.out⟩, ⟨bB BK414.out⟩, ⟨sB HB.out⟩⟩
      case round =>
       clear H'
       try clear c1
       try clear c2
       try clear p2
       try clear p4
       try clear q4
       try clear hx4
       try clear c8
       try clear c8b0
       try clear c9
       try clear c9b0
       try clear c10
       try clear c10b0
       try clear hcz5_0 hcz5_1 hcz5_2
       try clear hfz5_0 hfz5_1 hfz5_2
       try clear hx418_0
       try clear p2
       try clear p418
       try clear q418
       obtain ⟨x21_2, rfl, HA, HK2, HO_5, HO_13, HO_19, BK414, HB⟩ := hrel
       cases gk with
       | zero => exact absurd HA.out (by simp [impl_ClashOf.l1])
       | succ k2 =>
        have H := HA.out
        clear HA
        simp only [impl_ClashOf.l1] at H
        by_cases c11 : x21_2 < (t415.length : Int)
        ·rw [if_pos c11] at H
         have c11b0 : decide (x21_2 < (t415.length : Int)) = true := decide_eq_true c11
         clear c11
         by_cases c12 : 0 ≤ x21_2
         ·rw [if_pos c12] at H
          have c12b0 : decide (0 ≤ x21_2) = true := decide_eq_true c12
          clear c12
          by_cases c13 : x21_2 < (t415.length : Int)
          ·rw [if_pos c13] at H
           have c13b0 : decide (x21_2 < (t415.length : Int)) = true := decide_eq_true c13
           clear c13
           by_cases c14 : 0 ≤ (rd t415 x15_1)
           ·rw [if_pos c14] at H
            have c14b0 : decide (0 ≤ (rd t415 x15_1)) = true := decide_eq_true c14
            clear c14
            by_cases c15 : (rd t415 x15_1) < (l0.length : Int)
            ·rw [if_pos c15] at H
             have c15b0 : decide ((rd t415 x15_1) < (l0.length : Int)) = true := decide_eq_true c15
             clear c15
             by_cases c16 : 0 ≤ (rd t415 x21_2)
             ·rw [if_pos c16] at H
              have c16b0 : decide (0 ≤ (rd t415 x21_2)) = true := decide_eq_true c16
              clear c16
              by_cases c17 : (rd t415 x21_2) < (l0.length : Int)
              ·rw [if_pos c17] at H
               have c17b0 : decide ((rd t415 x21_2) < (l0.length : Int)) = true := decide_eq_true c17
               clear c17
               by_cases c18 : ((rd_T84 l0 (rd t415 x15_1)).f0) = ((rd_T84 l0 (rd t415 x21_2)).f0)
               ·rw [if_pos c18] at H
                have c18b0 : (((rd_T84 l0 (rd t415 x15_1)).f0) == ((rd_T84 l0 (rd t415 x21_2)).f0)) = true := beq_iff_eq.mpr c18
                have c18b1 : (((rd_T84 l0 (rd t415 x15_1)).f0) != ((rd_T84 l0 (rd t415 x21_2)).f0)) = false := bne_eq_false_iff_eq.mpr c18
                clear c18
                have H' := Aside0.mk H
                clear H
                have p419 : 0 ≤ (x21_2 : Int) := of_decide_eq_true (by first | (with_reducible assumption) | assumption)
                have q419 : x21_2 < (t415.length : Int) := of_decide_eq_true (by first | (with_reducible assumption) | assumption)
                obtain ⟨ad419, e419, hx419_0⟩ := Kd.at_int (Kd.R_reads' HO_19.out).2.2 x21_2 p419 q419
                obtain rfl : ad418 = ad419 := (by injection e419)
                replace p419 := eq_true p419
                replace q419 := eq_true q419
                have p420 : 0 ≤ ((rd t415 x15_1) : Int) := of_decide_eq_true (by first | (with_reducible assumption) | assumption)
                have q420 : (rd t415 x15_1) < (l0.length : Int) := of_decide_eq_true (by first | (with_reducible assumption) | assumption)
                obtain ⟨ad420, e420, hx420_0, hx420_1, hx420_2, hx420_3, hx420_4, hx420_5, hx420_6, hx420_7⟩ := at_T84 HR0.out (rd t415 x15_1) p420 q420
                cases e420
                replace hx420_0 := hc_ HB hx420_0
                replace hx420_1 := hc_ HB hx420_1
                replace hx420_2 := hc_ HB hx420_2
                replace hx420_3 := hc_ HB hx420_3
                replace hx420_4 := hc_ HB hx420_4
                replace hx420_5 := hc_ HB hx420_5
                replace hx420_6 := hc_ HB hx420_6
                replace hx420_7 := hc_ HB hx420_7
                replace p420 := eq_true p420
                replace q420 := eq_true q420
                have p421 : 0 ≤ ((rd t415 x21_2) : Int) := of_decide_eq_true (by first | (with_reducible assumption) | assumption)
                have q421 : (rd t415 x21_2) < (l0.length : Int) := of_decide_eq_true (by first | (with_reducible assumption) | assumption)
                obtain ⟨ad421, e421, hx421_0, hx421_1, hx421_2, hx421_3, hx421_4, hx421_5, hx421_6, hx421_7⟩ := at_T84 HR0.out (rd t415 x21_2) p421 q421
                obtain rfl : ad420 = ad421 := (by injection e421)
                replace hx421_0 := hc_ HB hx421_0
                replace hx421_1 := hc_ HB hx421_1
                replace hx421_2 := hc_ HB hx421_2
                replace hx421_3 := hc_ HB hx421_3
                replace hx421_4 := hc_ HB hx421_4
                replace hx421_5 := hc_ HB hx421_5
                replace hx421_6 := hc_ HB hx421_6
                replace hx421_7 := hc_ HB hx421_7
                replace p421 := eq_true p421
                replace q421 := eq_true q421
                go_wp2
                repeat (go_quiet (fail); try go_wp2)
                go_roundg k2
                case measure => have := HK1.out; have := HK2.out; omega
                case rel => exact ⟨(wrap64 (x21_2 + 1)), (by first | rfl | (simp; done) | (simp [*]; done)), H', ⟨by have := HK1.out; have := HK2.out; omega⟩, ⟨by (with_reducible repeat (first | apply Kd.R_alloc | apply Kd.R_drewN | apply Kd.R_drew)); exact HO_5.out⟩, ⟨by (with_reducible repeat (first | apply Kd.R_alloc | apply Kd.R_drewN | apply Kd.R_drew)); exact HO_13.out⟩, ⟨by (with_reducible repeat (first | apply Kd.R_alloc | apply Kd.R_drewN | apply Kd.R_drew)); exact HO_19.out⟩, ⟨bB BK414.out⟩, ⟨sB HB.out⟩⟩
               ·rw [if_neg c18] at H
                have c18b0 : (((rd_T84 l0 (rd t415 x15_1)).f0) == ((rd_T84 l0 (rd t415 x21_2)).f0)) = false := beq_eq_false_iff_ne.mpr c18
                have c18b1 : (((rd_T84 l0 (rd t415 x15_1)).f0) != ((rd_T84 l0 (rd t415 x21_2)).f0)) = true := bne_iff_ne.mpr c18
                by_cases c19 : ((rd_T84 l0 (rd t415 x15_1)).f4) = ((rd_T84 l0 (rd t415 x21_2)).f4)
                ·rw [if_pos c19] at H
                 have c19b0 : (((rd_T84 l0 (rd t415 x15_1)).f4) == ((rd_T84 l0 (rd t415 x21_2)).f4)) = true := beq_iff_eq.mpr c19
                 have c19b1 : (((rd_T84 l0 (rd t415 x15_1)).f4) != ((rd_T84 l0 (rd t415 x21_2)).f4)) = false := bne_eq_false_iff_eq.mpr c19
                 clear c19
                 have H' := Aside0.mk H
                 clear H
                 have p419 : 0 ≤ (x21_2 : Int) := of_decide_eq_true (by first | (with_reducible assumption) | assumption)
                 have q419 : x21_2 < (t415.length : Int) := of_decide_eq_true (by first | (with_reducible assumption) | assumption)
                 obtain ⟨ad419, e419, hx419_0⟩ := Kd.at_int (Kd.R_reads' HO_19.out).2.2 x21_2 p419 q419
                 obtain rfl : ad418 = ad419 := (by injection e419)
                 replace p419 := eq_true p419
                 replace q419 := eq_true q419
                 have p420 : 0 ≤ ((rd t415 x15_1) : Int) := of_decide_eq_true (by first | (with_reducible assumption) | assumption)
                 have q420 : (rd t415 x15_1) < (l0.length : Int) := of_decide_eq_true (by first | (with_reducible assumption) | assumption)
                 obtain ⟨ad420, e420, hx420_0, hx420_1, hx420_2, hx420_3, hx420_4, hx420_5, hx420_6, hx420_7⟩ := at_T84 HR0.out (rd t415 x15_1) p420 q420
                 cases e420
                 replace hx420_0 := hc_ HB hx420_0
                 replace hx420_1 := hc_ HB hx420_1
                 replace hx420_2 := hc_ HB hx420_2
                 replace hx420_3 := hc_ HB hx420_3
                 replace hx420_4 := hc_ HB hx420_4
                 replace hx420_5 := hc_ HB hx420_5
                 replace hx420_6 := hc_ HB hx420_6
                 replace hx420_7 := hc_ HB hx420_7
                 replace p420 := eq_true p420
                 replace q420 := eq_true q420
                 have p421 : 0 ≤ ((rd t415 x21_2) : Int) := of_decide_eq_true (by first | (with_reducible assumption) | assumption)
                 have q421 : (rd t415 x21_2) < (l0.length : Int) := of_decide_eq_true (by first | (with_reducible assumption) | assumption)
                 obtain ⟨ad421, e421, hx421_0, hx421_1, hx421_2, hx421_3, hx421_4, hx421_5, hx421_6, hx421_7⟩ := at_T84 HR0.out (rd t415 x21_2) p421 q421
                 obtain rfl : ad420 = ad421 := (by injection e421)
                 replace hx421_0 := hc_ HB hx421_0
                 replace hx421_1 := hc_ HB hx421_1
                 replace hx421_2 := hc_ HB hx421_2
                 replace hx421_3 := hc_ HB hx421_3
                 replace hx421_4 := hc_ HB hx421_4
                 replace hx421_5 := hc_ HB hx421_5
                 replace hx421_6 := hc_ HB hx421_6
                 replace hx421_7 := hc_ HB hx421_7
                 replace p421 := eq_true p421
                 replace q421 := eq_true q421
                 have p422 : 0 ≤ ((rd t415 x15_1) : Int) := of_decide_eq_true (by first | (with_reducible assumption) | assumption)
                 have q422 : (rd t415 x15_1) < (l0.length : Int) := of_decide_eq_true (by first | (with_reducible assumption) | assumption)
                 obtain ⟨ad422, e422, hx422_0, hx422_1, hx422_2, hx422_3, hx422_4, hx422_5, hx422_6, hx422_7⟩ := at_T84 HR0.out (rd t415 x15_1) p422 q422
                 obtain rfl : ad420 = ad422 := (by injection e422)
                 replace hx422_0 := hc_ HB hx422_0
                 replace hx422_1 := hc_ HB hx422_1
                 replace hx422_2 := hc_ HB hx422_2
                 replace hx422_3 := hc_ HB hx422_3
                 replace hx422_4 := hc_ HB hx422_4
                 replace hx422_5 := hc_ HB hx422_5
                 replace hx422_6 := hc_ HB hx422_6
                 replace hx422_7 := hc_ HB hx422_7
                 replace p422 := eq_true p422
                 replace q422 := eq_true q422
                 have p423 : 0 ≤ ((rd t415 x21_2) : Int) := of_decide_eq_true (by first | (with_reducible assumption) | assumption)
                 have q423 : (rd t415 x21_2) < (l0.length : Int) := of_decide_eq_true (by first | (with_reducible assumption) | assumption)
                 obtain ⟨ad423, e423, hx423_0, hx423_1, hx423_2, hx423_3, hx423_4, hx423_5, hx423_6, hx423_7⟩ := at_T84 HR0.out (rd t415 x21_2) p423 q423
                 obtain rfl : ad420 = ad423 := (by injection e423)
                 replace hx423_0 := hc_ HB hx423_0
                 replace hx423_1 := hc_ HB hx423_1
                 replace hx423_2 := hc_ HB hx423_2
                 replace hx423_3 := hc_ HB hx423_3
                 replace hx423_4 := hc_ HB hx423_4
                 replace hx423_5 := hc_ HB hx423_5
                 replace hx423_6 := hc_ HB hx423_6
                 replace hx423_7 := hc_ HB hx423_7
                 replace p423 := eq_true p423
                 replace q423 := eq_true q423
                 go_wp2
                 repeat (go_quiet (fail); try go_wp2)
                 go_roundg k2
                 case measure => have := HK1.out; have := HK2.out; omega
                 case rel => exact ⟨(wrap64 (x21_2 + 1)), (by first | rfl | (simp; done) | (simp [*]; done)), H', ⟨by have := HK1.out; have := HK2.out; omega⟩, ⟨by (with_reducible repeat (first | apply Kd.R_alloc | apply Kd.R_drewN | apply Kd.R_drew)); exact HO_5.out⟩, ⟨by (with_reducible repeat (first | apply Kd.R_alloc | apply Kd.R_drewN | apply Kd.R_drew)); exact HO_13.out⟩, ⟨by (with_reducible repeat (first | apply Kd.R_alloc | apply Kd.R_drewN | apply Kd.R_drew)); exact HO_19.out⟩, ⟨bB BK414.out⟩, ⟨sB HB.out⟩⟩
                ·rw [if_neg c19] at H
                 have c19b0 : (((rd_T84 l0 (rd t415 x15_1)).f4) == ((rd_T84 l0 (rd t415 x21_2)).f4)) = false := beq_eq_false_iff_ne.mpr c19
                 have c19b1 : (((rd_T84 l0 (rd t415 x15_1)).f4) != ((rd_T84 l0 (rd t415 x21_2)).f4)) = true := bne_iff_ne.mpr c19
                 obtain rfl := Option.some.inj H
                 have p419 : 0 ≤ (x21_2 : Int) := of_decide_eq_true (by first | (with_reducible assumption) | assumption)
                 have q419 : x21_2 < (t415.length : Int) := of_decide_eq_true (by first | (with_reducible assumption) | assumption)
                 obtain ⟨ad419, e419, hx419_0⟩ := Kd.at_int (Kd.R_reads' HO_19.out).2.2 x21_2 p419 q419
                 obtain rfl : ad418 = ad419 := (by injection e419)
                 replace p419 := eq_true p419
                 replace q419 := eq_true q419
                 have p420 : 0 ≤ ((rd t415 x15_1) : Int) := of_decide_eq_true (by first | (with_reducible assumption) | assumption)
                 have q420 : (rd t415 x15_1) < (l0.length : Int) := of_decide_eq_true (by first | (with_reducible assumption) | assumption)
                 obtain ⟨ad420, e420, hx420_0, hx420_1, hx420_2, hx420_3, hx420_4, hx420_5, hx420_6, hx420_7⟩ := at_T84 HR0.out (rd t415 x15_1) p420 q420
                 cases e420
                 replace hx420_0 := hc_ HB hx420_0
                 replace hx420_1 := hc_ HB hx420_1
                 replace hx420_2 := hc_ HB hx420_2
                 replace hx420_3 := hc_ HB hx420_3
                 replace hx420_4 := hc_ HB hx420_4
                 replace hx420_5 := hc_ HB hx420_5
                 replace hx420_6 := hc_ HB hx420_6
                 replace hx420_7 := hc_ HB hx420_7
                 replace p420 := eq_true p420
                 replace q420 := eq_true q420
                 have p421 : 0 ≤ ((rd t415 x21_2) : Int) := of_decide_eq_true (by first | (with_reducible assumption) | assumption)
                 have q421 : (rd t415 x21_2) < (l0.length : Int) := of_decide_eq_true (by first | (with_reducible assumption) | assumption)
                 obtain ⟨ad421, e421, hx421_0, hx421_1, hx421_2, hx421_3, hx421_4, hx421_5, hx421_6, hx421_7⟩ := at_T84 HR0.out (rd t415 x21_2) p421 q421
                 obtain rfl : ad420 = ad421 := (by injection e421)
                 replace hx421_0 := hc_ HB hx421_0
                 replace hx421_1 := hc_ HB hx421_1
                 replace hx421_2 := hc_ HB hx421_2
                 replace hx421_3 := hc_ HB hx421_3
                 replace hx421_4 := hc_ HB hx421_4
                 replace hx421_5 := hc_ HB hx421_5
                 replace hx421_6 := hc_ HB hx421_6
                 replace hx421_7 := hc_ HB hx421_7
                 replace p421 := eq_true p421
                 replace q421 := eq_true q421
                 have p422 : 0 ≤ ((rd t415 x15_1) : Int) := of_decide_eq_true (by first | (with_reducible assumption) | assumption)
                 have q422 : (rd t415 x15_1) < (l0.length : Int) := of_decide_eq_true (by first | (with_reducible assumption) | assumption)
                 obtain ⟨ad422, e422, hx422_0, hx422_1, hx422_2, hx422_3, hx422_4, hx422_5, hx422_6, hx422_7⟩ := at_T84 HR0.out (rd t415 x15_1) p422 q422
                 obtain rfl : ad420 = ad422 := (by injection e422)
                 replace hx422_0 := hc_ HB hx422_0
                 replace hx422_1 := hc_ HB hx422_1
                 replace hx422_2 := hc_ HB hx422_2
                 replace hx422_3 := hc_ HB hx422_3
                 replace hx422_4 := hc_ HB hx422_4
                 replace hx422_5 := hc_ HB hx422_5
                 replace hx422_6 := hc_ HB hx422_6
                 replace hx422_7 := hc_ HB hx422_7
                 replace p422 := eq_true p422
                 replace q422 := eq_true q422
                 have p423 : 0 ≤ ((rd t415 x21_2) : Int) := of_decide_eq_true (by first | (with_reducible assumption) | assumption)
                 have q423 : (rd t415 x21_2) < (l0.length : Int) := of_decide_eq_true (by first | (with_reducible assumption) | assumption)
                 obtain ⟨ad423, e423, hx423_0, hx423_1, hx423_2, hx423_3, hx423_4, hx423_5, hx423_6, hx423_7⟩ := at_T84 HR0.out (rd t415 x21_2) p423 q423
                 obtain rfl : ad420 = ad423 := (by injection e423)
                 replace hx423_0 := hc_ HB hx423_0
                 replace hx423_1 := hc_ HB hx423_1
                 replace hx423_2 := hc_ HB hx423_2
                 replace hx423_3 := hc_ HB hx423_3
                 replace hx423_4 := hc_ HB hx423_4
                 replace hx423_5 := hc_ HB hx423_5
                 replace hx423_6 := hc_ HB hx423_6
                 replace hx423_7 := hc_ HB hx423_7
                 replace p423 := eq_true p423
                 replace q423 := eq_true q423
                 go_wp2
                 repeat (go_quiet (fail); try go_wp2)
                 go_ret
                 exact ⟨by first | rfl | (simp [errW_none, errW_some] <;> rfl) | (simp [*, errW_none, errW_some] <;> rfl), sB HB.out⟩
              ·rw [if_neg c17] at H
               exact absurd H (by simp)
             ·rw [if_neg c16] at H
              exact absurd H (by simp)
            ·rw [if_neg c15] at H
             exact absurd H (by simp)
           ·rw [if_neg c14] at H
            exact absurd H (by simp)
          ·rw [if_neg c13] at H
           exact absurd H (by simp)
         ·rw [if_neg c12] at H
          exact absurd H (by simp)
        ·rw [if_neg c11] at H
         have c11b0 : decide (x21_2 < (t415.length : Int)) = false := decide_eq_false c11
         clear c11
         have H' := Aside0.mk H
         clear H
         go_wp2
         repeat (go_quiet (fail); try go_wp2)
         go_roundg k2
         case measure => have := HK1.out; have := HK2.out; omega
         case rel => exact ⟨(wrap64 (x15_1 + 1)), (by first | rfl | (simp; done) | (simp [*]; done)), H', ⟨by have := HK1.out; have := HK2.out; omega⟩, ⟨by (with_reducible repeat (first | apply Kd.R_alloc | apply Kd.R_drewN | apply Kd.R_drew)); exact HO_5.out⟩, ⟨by (with_reducible repeat (first | apply Kd.R_alloc | apply Kd.R_drewN | apply Kd.R_drew)); exact HO_13.out⟩, ⟨bB BK414.out⟩, ⟨sB HB.out⟩⟩
     ·rw [if_neg c10] at H
      exact absurd H (by simp)
    ·rw [if_neg c9] at H
     exact absurd H (by simp)
   ·rw [if_neg c8] at H
    have c8b0 : decide (x15_1 < (t415.length : Int)) = false := decide_eq_false c8
    clear c8
    obtain rfl := Option.some.inj H
    go_wp2
    repeat (go_quiet (fail); try go_wp2)
    go_ret
    exact ⟨by first | rfl | (simp [errW_none, errW_some] <;> rfl) | (simp [*, errW_none, errW_some] <;> rfl), sB HB.out⟩

end Go.Proofs.Ytilneejgliglhaa.QS
