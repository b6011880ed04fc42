/- Go functions as Lean functions, each with its walk; printed by a program of this session (a scratch copy of print.py that follows nested field addresses and tells a law for the answer true). -/
import Derived.Test.YtilneejgliglhaaQNx0
import Derived.Test.YtilneejgliglhaaQNx35
import Derived.Test.YtilneejgliglhaaQNxM0
namespace Go.Proofs.Ytilneejgliglhaa.QN
open Go.RowKit Go.Proofs.YtilneejgliglhaaW.PrintWords Go.Proofs.YtilneejgliglhaaW.PrintLast Go.Proofs.YtilneejgliglhaaW.PrintMore Go.Proofs.Ytilneejgliglhaa.Short
attribute [local go_sem] max2_int min2_int max_two min_two max_three min_three max_four min_four   -- for this text's walks alone
set_option linter.unusedVariables false
set_option linter.unusedSimpArgs false

/-! ### impl_IsWithinGrants: function 13 -/
mutual
def impl_IsWithinGrants.l0 : Nat → List (S35) → List (S35) → Int → Int → Option (Bool)
 | 0, _, _, _, _ => none
 | k + 1, x1, x10, x11, x12 => if x12 < x11 then (if 0 ≤ x12 then (if x12 < (x10.length : Int) then (impl_IsWithinGrants.l1 k x1 false x10 x11 x12 x1 (x1.length : Int) 0 ((rd_T35 x10 x12).f0) ((rd_T35 x10 x12).f1.f0) ((rd_T35 x10 x12).f1.f1) ((rd_T35 x10 x12).f2) ((rd_T35 x10 x12).f3) ((rd_T35 x10 x12).f4) ((rd_T35 x10 x12).f5)) else (none)) else (none)) else (some true)
def impl_IsWithinGrants.l1 : Nat → List (S35) → Bool → List (S35) → Int → Int → List (S35) → Int → Int → Int → Int → Int → Int → Int → Int → Bool → Option (Bool)
 | 0, _, _, _, _, _, _, _, _, _, _, _, _, _, _, _ => none
 | k + 1, x1, x7, x10, x11, x12, x16, x17, x18, x395000, x395001, x395002, x395003, x395004, x395005, x395006 => if x18 < x17 then (if 0 ≤ x18 then (if x18 < (x16.length : Int) then ((impl_IsGrant.f x395000 x395001 x395002 x395003 x395004 x395005 x395006).bind fun t397 => (if t397 = true then ((impl_IsGrant.f ((rd_T35 x16 x18).f0) ((rd_T35 x16 x18).f1.f0) ((rd_T35 x16 x18).f1.f1) ((rd_T35 x16 x18).f2) ((rd_T35 x16 x18).f3) ((rd_T35 x16 x18).f4) ((rd_T35 x16 x18).f5)).bind fun t398 => (if t398 = true then (if x395000 = ((rd_T35 x16 x18).f0) then (if x395003 = ((rd_T35 x16 x18).f2) then ((impl_IsNarrower.f x395001 x395002 ((rd_T35 x16 x18).f1.f0) ((rd_T35 x16 x18).f1.f1)).bind fun t399 => (if t399 = true then (if ((rd_T35 x16 x18).f3) ≤ x395004 then (if x395005 ≤ ((rd_T35 x16 x18).f4) then (if x395006 = true then (impl_IsWithinGrants.l0 k x1 x10 x11 (wrap64 (x12 + 1))) else (if ((rd_T35 x16 x18).f5 = true) then (impl_IsWithinGrants.l1 k x1 x7 x10 x11 x12 x16 x17 (wrap64 (x18 + 1)) x395000 x395001 x395002 x395003 x395004 x395005 x395006) else (impl_IsWithinGrants.l0 k x1 x10 x11 (wrap64 (x12 + 1))))) else (impl_IsWithinGrants.l1 k x1 x7 x10 x11 x12 x16 x17 (wrap64 (x18 + 1)) x395000 x395001 x395002 x395003 x395004 x395005 x395006)) else (impl_IsWithinGrants.l1 k x1 x7 x10 x11 x12 x16 x17 (wrap64 (x18 + 1)) x395000 x395001 x395002 x395003 x395004 x395005 x395006)) else (impl_IsWithinGrants.l1 k x1 x7 x10 x11 x12 x16 x17 (wrap64 (x18 + 1)) x395000 x395001 x395002 x395003 x395004 x395005 x395006))) else (impl_IsWithinGrants.l1 k x1 x7 x10 x11 x12 x16 x17 (wrap64 (x18 + 1)) x395000 x395001 x395002 x395003 x395004 x395005 x395006)) else (impl_IsWithinGrants.l1 k x1 x7 x10 x11 x12 x16 x17 (wrap64 (x18 + 1)) x395000 x395001 x395002 x395003 x395004 x395005 x395006)) else (impl_IsWithinGrants.l1 k x1 x7 x10 x11 x12 x16 x17 (wrap64 (x18 + 1)) x395000 x395001 x395002 x395003 x395004 x395005 x395006))) else (impl_IsWithinGrants.l1 k x1 x7 x10 x11 x12 x16 x17 (wrap64 (x18 + 1)) x395000 x395001 x395002 x395003 x395004 x395005 x395006))) else (none)) else (none)) else (if x7 = true then (impl_IsWithinGrants.l0 k x1 x10 x11 (wrap64 (x12 + 1))) else (some false))
end
def impl_IsWithinGrants.f (k : Nat) (l0 : List (S35)) (l1 : List (S35)) : Option (Bool) := impl_IsWithinGrants.l0 k l1 l0 (l0.length : Int) 0
set_option maxHeartbeats 8000000 in
set_option maxRecDepth 100000 in
theorem impl_IsWithinGrants.calls (k : Nat) (A0 : Option Addr) (c0 : Nat) (l0 : List (S35)) (A1 : Option Addr) (c1 : Nat) (l1 : List (S35)) (r : Bool) (w : World) (hr0 : Kd.C k35 w A0 l0.length l0) (hc0 : l0.length ≤ c0) (hr1 : Kd.C k35 w A1 l1.length l1) (hc1 : l1.length ≤ c1) (h : impl_IsWithinGrants.f k l0 l1 = some r) :
  Calls Try.prog 13 #[.slice A0 l0.length c0, .slice A1 l1.length c1] w fun e w' => e = .returned (.bool r) ∧ Below w.heap.size w w' := by
 have hu35 := Try.underlying35
 have hu33 := Try.underlying33
 have HR0 := am hr0
 have HC0 := am hc0
 clear hr0 hc0
 have HR1 := am hr1
 have HC1 := am hc1
 clear hr1 hc1
 have HB := am (Below.refl w.heap.size w)
 unfold impl_IsWithinGrants.f at h
 have H := h
 clear h
 have H' := am H
 clear H
 go_enter Try.func13, Try.ntmps13
 go_wp2
 go_loopg [12] k (fun kq v12 w' => ∃ (x12_1 : Int), v12 = .int .i64 x12_1 ∧ Aside0 (impl_IsWithinGrants.l0 kq l1 l0 (l0.length : Int) x12_1 = some r) ∧ Aside0 (kq ≤ k) ∧ Aside0 (Below w.heap.size w w'))
 case atStart => exact ⟨(0), (by first | rfl | (simp; done) | (simp [*]; done)), H', ⟨Nat.le_refl _⟩, ⟨sB HB.out⟩⟩
 case round =>
  clear H'
  try clear c1
  try clear p2
  obtain ⟨x12_1, rfl, HA, HK1, HB⟩ := hrel
  cases gk with
  | zero => exact absurd HA.out (by simp [impl_IsWithinGrants.l0])
  | succ k1 =>
   have H := HA.out
   clear HA
   simp only [impl_IsWithinGrants.l0] at H
   by_cases c3 : x12_1 < (l0.length : Int)
   ·rw [if_pos c3] at H
    have c3b0 : decide (x12_1 < (l0.length : Int)) = true := decide_eq_true c3
    clear c3
    by_cases c4 : 0 ≤ x12_1
    ·rw [if_pos c4] at H
     have c4b0 : decide (0 ≤ x12_1) = true := decide_eq_true c4
     clear c4
     by_cases c5 : x12_1 < (l0.length : Int)
     ·rw [if_pos c5] at H
      have c5b0 : decide (x12_1 < (l0.length : Int)) = true := decide_eq_true c5
      clear c5
      have H' := am H
      clear H
      have p393 : 0 ≤ (x12_1 : Int) := Kp (by first | (with_reducible assumption) | assumption)
      have q393 : x12_1 < (l0.length : Int) := Kp (by first | (with_reducible assumption) | assumption)
      obtain ⟨ad393, e393, hx393_0, hx393_1, hx393_2, hx393_3, hx393_4, hx393_5, hx393_6⟩ := at_T35 HR0.out x12_1 p393 q393
      cases e393
      replace hx393_0 := hc_ HB hx393_0
      replace hx393_1 := hc_ HB hx393_1
      replace hx393_2 := hc_ HB hx393_2
      replace hx393_3 := hc_ HB hx393_3
      replace hx393_4 := hc_ HB hx393_4
      replace hx393_5 := hc_ HB hx393_5
      replace hx393_6 := hc_ HB hx393_6
      replace p393 := eq_true p393
      replace q393 := eq_true q393
      go_wp2_with (first | ((with_reducible refine gate_dst (N := 6) rfl ?_); refine bE 6 #[.int .i64 0, .int .i64 0, .int .i64 0, .int .i64 0, .int .i64 0, .int .i64 0, .bool false] 35 ?_; intro gb394 hg w6 hbox hb; have q_ := hbx_ (sB HB.out) hg hb; have n0_ := q_.1; have n1_ := am (hbox); have n2_ := q_.2; have n3_ := n2_; clear HB; have HB := n0_; have BK394 := n1_; have GW394 := n2_; have GE394 := n3_; clear n0_ n1_ n2_ n3_ hb hbox hg; obtain ⟨hcz7_0, hcz7_1, hcz7_2, hcz7_3, hcz7_4, hcz7_5, hcz7_6, hfz7_0, hfz7_1, hfz7_2, hfz7_3, hfz7_4, hfz7_5, hfz7_6⟩ := blk7 BK394.out))
      go_loopg [7, 18] k1 (fun kq v7 v18 w' => ∃ (x7_2 : Bool) (x18_2 : Int), v7 = .bool x7_2 ∧ v18 = .int .i64 x18_2 ∧ Aside0 (impl_IsWithinGrants.l1 kq l1 x7_2 l0 (l0.length : Int) x12_1 l1 (l1.length : Int) x18_2 ((rd_T35 l0 x12_1).f0) ((rd_T35 l0 x12_1).f1.f0) ((rd_T35 l0 x12_1).f1.f1) ((rd_T35 l0 x12_1).f2) ((rd_T35 l0 x12_1).f3) ((rd_T35 l0 x12_1).f4) ((rd_T35 l0 x12_1).f5) = some r) ∧ Aside0 (kq ≤ k1) ∧ Aside0 (w'.heap[gb394]? = some (.cells #[.int .i64 ((rd_T35 l0 x12_1).f0), .int .i64 ((rd_T35 l0 x12_1).f1.f0), .int .i64 ((rd_T35 l0 x12_1).f1.f1), .int .i64 ((rd_T35 l0 x12_1).f2), .int .i64 ((rd_T35 l0 x12_1).f3), .int .i64 ((rd_T35 l0 x12_1).f4), .bool ((rd_T35 l0 x12_1).f5)] 35 (0, 0))) ∧ Aside0 (Below w.heap.size w w'))
      case atStart => exact ⟨(false), (0), (by first | rfl | (simp; done) | (simp [*]; done)), (by first | rfl | (simp; done) | (simp [*]; done)), H', ⟨Nat.le_refl _⟩, ⟨by refine bB ?_; refine Kg (cs := #[.int .i64 ((rd_T35 l0 x12_1).f0), .int .i64 ((rd_T35 l0 x12_1).f1.f0), .int .i64 ((rd_T35 l0 x12_1).f1.f1), .int .i64 ((rd_T35 l0 x12_1).f2), .int .i64 ((rd_T35 l0 x12_1).f3), .int .i64 ((rd_T35 l0 x12_1).f4), .bool false]) ?_ 6 _ rfl; refine bB ?_; refine Kg (cs := #[.int .i64 ((rd_T35 l0 x12_1).f0), .int .i64 ((rd_T35 l0 x12_1).f1.f0), .int .i64 ((rd_T35 l0 x12_1).f1.f1), .int .i64 ((rd_T35 l0 x12_1).f2), .int .i64 ((rd_T35 l0 x12_1).f3), .int .i64 0, .bool false]) ?_ 5 _ rfl; refine bB ?_; refine Kg (cs := #[.int .i64 ((rd_T35 l0 x12_1).f0), .int .i64 ((rd_T35 l0 x12_1).f1.f0), .int .i64 ((rd_T35 l0 x12_1).f1.f1), .int .i64 ((rd_T35 l0 x12_1).f2), .int .i64 0, .int .i64 0, .bool false]) ?_ 4 _ rfl; refine bB ?_; refine Kg (cs := #[.int .i64 ((rd_T35 l0 x12_1).f0), .int .i64 ((rd_T35 l0 x12_1).f1.f0), .int .i64 ((rd_T35 l0 x12_1).f1.f1), .int .i64 0, .int .i64 0, .int .i64 0, .bool false]) ?_ 3 _ rfl; refine bB ?_; refine Kg (cs := #[.int .i64 ((rd_T35 l0 x12_1).f0), .int .i64 ((rd_T35 l0 x12_1).f1.f0), .int .i64 0, .int .i64 0, .int .i64 0, .int .i64 0, .bool false]) ?_ 2 _ rfl; refine bB ?_; refine Kg (cs := #[.int .i64 ((rd_T35 l0 x12_1).f0), .int .i64 0, .int .i64 0, .int .i64 0, .int .i64 0, .int .i64 0, .bool false]) ?_ 1 _ rfl; refine bB ?_; refine Kg (cs := #[.int .i64 0, .int .i64 0, .int .i64 0, .int .i64 0, .int .i64 0, .int .i64 0, .bool false]) ?_ 0 _ rfl; refine bB ?_; exact BK394.out⟩, ⟨sB HB.out⟩⟩
      case round =>
       clear H'
       try clear c1
       try clear p2
       try clear c3
       try clear c3b0
       try clear p3
       try clear q3
       try clear hx3
       try clear c4
       try clear c4b0
       try clear c5
       try clear c5b0
       try clear hcz7_0 hcz7_1 hcz7_2 hcz7_3 hcz7_4 hcz7_5 hcz7_6
       try clear hfz7_0 hfz7_1 hfz7_2 hfz7_3 hfz7_4 hfz7_5 hfz7_6
       try clear hx393_0
       try clear hx393_1
       try clear hx393_2
       try clear hx393_3
       try clear hx393_4
       try clear hx393_5
       try clear hx393_6
       try clear p2
       try clear p393
       try clear q393
       obtain ⟨x7_2, x18_2, rfl, rfl, HA, HK2, BK394, HB⟩ := hrel
       cases gk with
       | zero => exact absurd HA.out (by simp [impl_IsWithinGrants.l1])
       | succ k2 =>
        have H := HA.out
        clear HA
        simp only [impl_IsWithinGrants.l1] at H
        by_cases c8 : x18_2 < (l1.length : Int)
        ·rw [if_pos c8] at H
         have c8b0 : decide (x18_2 < (l1.length : Int)) = true := decide_eq_true c8
         clear c8
         by_cases c9 : 0 ≤ x18_2
         ·rw [if_pos c9] at H
          have c9b0 : decide (0 ≤ x18_2) = true := decide_eq_true c9
          clear c9
          by_cases c10 : x18_2 < (l1.length : Int)
          ·rw [if_pos c10] at H
           have c10b0 : decide (x18_2 < (l1.length : Int)) = true := decide_eq_true c10
           clear c10
           replace H := bO H
           obtain ⟨t397, A11, H⟩ := H
           by_cases c12 : t397 = true
           ·subst c12
            replace H := hT H
            replace H := bO H
            obtain ⟨t398, A13, H⟩ := H
            by_cases c14 : t398 = true
            ·subst c14
             replace H := hT H
             by_cases c15 : ((rd_T35 l0 x12_1).f0) = ((rd_T35 l1 x18_2).f0)
             ·rw [if_pos c15] at H
              have c15b0 : (((rd_T35 l0 x12_1).f0) == ((rd_T35 l1 x18_2).f0)) = true := beq_iff_eq.mpr c15
              have c15b1 : (((rd_T35 l0 x12_1).f0) != ((rd_T35 l1 x18_2).f0)) = false := bne_eq_false_iff_eq.mpr c15
              clear c15
              by_cases c16 : ((rd_T35 l0 x12_1).f2) = ((rd_T35 l1 x18_2).f2)
              ·rw [if_pos c16] at H
               have c16b0 : (((rd_T35 l0 x12_1).f2) == ((rd_T35 l1 x18_2).f2)) = true := beq_iff_eq.mpr c16
               have c16b1 : (((rd_T35 l0 x12_1).f2) != ((rd_T35 l1 x18_2).f2)) = false := bne_eq_false_iff_eq.mpr c16
               clear c16
               replace H := bO H
               obtain ⟨t399, A17, H⟩ := H
               by_cases c18 : t399 = true
               ·subst c18
                replace H := hT H
                by_cases c19 : ((rd_T35 l1 x18_2).f3) ≤ ((rd_T35 l0 x12_1).f3)
                ·rw [if_pos c19] at H
                 have c19b0 : decide (((rd_T35 l1 x18_2).f3) ≤ ((rd_T35 l0 x12_1).f3)) = true := decide_eq_true c19
                 clear c19
                 by_cases c20 : ((rd_T35 l0 x12_1).f4) ≤ ((rd_T35 l1 x18_2).f4)
                 ·rw [if_pos c20] at H
                  have c20b0 : decide (((rd_T35 l0 x12_1).f4) ≤ ((rd_T35 l1 x18_2).f4)) = true := decide_eq_true c20
                  clear c20
                  by_cases c21 : ((rd_T35 l0 x12_1).f5) = true
                  ·rw [if_pos c21] at H
                   have c21q : (rd_T35 l0 x12_1).f5 = true := c21
                   clear c21
                   generalize (rd_T35 l0 x12_1).f5 = bz_ at *
                   subst c21q
                   have H' := am H
                   clear H
                   have p395 : 0 ≤ (x18_2 : Int) := Kp (by first | (with_reducible assumption) | assumption)
                   have q395 : x18_2 < (l1.length : Int) := Kp (by first | (with_reducible assumption) | assumption)
                   obtain ⟨ad395, e395, hx395_0, hx395_1, hx395_2, hx395_3, hx395_4, hx395_5, hx395_6⟩ := at_T35 HR1.out x18_2 p395 q395
                   cases e395
                   replace hx395_0 := hc_ HB hx395_0
                   replace hx395_1 := hc_ HB hx395_1
                   replace hx395_2 := hc_ HB hx395_2
                   replace hx395_3 := hc_ HB hx395_3
                   replace hx395_4 := hc_ HB hx395_4
                   replace hx395_5 := hc_ HB hx395_5
                   replace hx395_6 := hc_ HB hx395_6
                   replace p395 := eq_true p395
                   replace q395 := eq_true q395
                   go_wp2_with (first | ((with_reducible refine gate_dst (N := 9) rfl ?_); refine bE 9 #[.int .i64 0, .int .i64 0, .int .i64 0, .int .i64 0, .int .i64 0, .int .i64 0, .bool false] 35 ?_; intro gb396 hg w22 hbox hb; have n0_ := am (Kb (bB BK394.out) hb); have q_ := hbx_ (sB HB.out) hg hb; have n1_ := q_.1; have n2_ := am (hbox); have n3_ := q_.2; have n4_ := n3_; have n5_ := nL hg (bB BK394.out); have n6_ := nR hg (bB BK394.out); clear BK394; clear HB; have BK394 := n0_; have HB := n1_; have BK396 := n2_; have GW396 := n3_; have GE396 := n4_; have NB394_396 := n5_; have NB396_394 := n6_; clear n0_ n1_ n2_ n3_ n4_ n5_ n6_; clear hb hbox hg; have hnb23 := NB396_394.out; have hnc23 := NB394_396.out; obtain ⟨hcz24_0, hcz24_1, hcz24_2, hcz24_3, hcz24_4, hcz24_5, hcz24_6, hfz24_0, hfz24_1, hfz24_2, hfz24_3, hfz24_4, hfz24_5, hfz24_6⟩ := blk7 BK396.out; obtain ⟨hcz25_0, hcz25_1, hcz25_2, hcz25_3, hcz25_4, hcz25_5, hcz25_6, hfz25_0, hfz25_1, hfz25_2, hfz25_3, hfz25_4, hfz25_5, hfz25_6⟩ := blk7 BK394.out) | ((with_reducible refine gate_callee (f := 41) rfl ?_); refine gL (some 23) Try.func41 #[.agg #[.int .i64 ((rd_T35 l0 x12_1).f0), .int .i64 ((rd_T35 l0 x12_1).f1.f0), .int .i64 ((rd_T35 l0 x12_1).f1.f1), .int .i64 ((rd_T35 l0 x12_1).f2), .int .i64 ((rd_T35 l0 x12_1).f3), .int .i64 ((rd_T35 l0 x12_1).f4), .bool true]] ?_; (with_reducible refine (impl_IsGrant.calls ((rd_T35 l0 x12_1).f0) ((rd_T35 l0 x12_1).f1.f0) ((rd_T35 l0 x12_1).f1.f1) ((rd_T35 l0 x12_1).f2) ((rd_T35 l0 x12_1).f3) ((rd_T35 l0 x12_1).f4) true true _ A11.out).mono ?_); rintro e w26 ⟨rfl, hb⟩; refine ⟨_, rfl, ?_⟩; replace BK394 := am (Kb (fB NB394_396.out BK394.out) hb); replace BK396 := am (Kb (g := gb396) (o := .cells #[.int .i64 ((rd_T35 l1 x18_2).f0), .int .i64 ((rd_T35 l1 x18_2).f1.f0), .int .i64 ((rd_T35 l1 x18_2).f1.f1), .int .i64 ((rd_T35 l1 x18_2).f2), .int .i64 ((rd_T35 l1 x18_2).f3), .int .i64 ((rd_T35 l1 x18_2).f4), .bool ((rd_T35 l1 x18_2).f5)] 35 (0, 0)) (by refine bB ?_; refine Kg (cs := #[.int .i64 ((rd_T35 l1 x18_2).f0), .int .i64 ((rd_T35 l1 x18_2).f1.f0), .int .i64 ((rd_T35 l1 x18_2).f1.f1), .int .i64 ((rd_T35 l1 x18_2).f2), .int .i64 ((rd_T35 l1 x18_2).f3), .int .i64 ((rd_T35 l1 x18_2).f4), .bool false]) ?_ 6 _ rfl; refine bB ?_; refine Kg (cs := #[.int .i64 ((rd_T35 l1 x18_2).f0), .int .i64 ((rd_T35 l1 x18_2).f1.f0), .int .i64 ((rd_T35 l1 x18_2).f1.f1), .int .i64 ((rd_T35 l1 x18_2).f2), .int .i64 ((rd_T35 l1 x18_2).f3), .int .i64 0, .bool false]) ?_ 5 _ rfl; refine bB ?_; refine Kg (cs := #[.int .i64 ((rd_T35 l1 x18_2).f0), .int .i64 ((rd_T35 l1 x18_2).f1.f0), .int .i64 ((rd_T35 l1 x18_2).f1.f1), .int .i64 ((rd_T35 l1 x18_2).f2), .int .i64 0, .int .i64 0, .bool false]) ?_ 4 _ rfl; refine bB ?_; refine Kg (cs := #[.int .i64 ((rd_T35 l1 x18_2).f0), .int .i64 ((rd_T35 l1 x18_2).f1.f0), .int .i64 ((rd_T35 l1 x18_2).f1.f1), .int .i64 0, .int .i64 0, .int .i64 0, .bool false]) ?_ 3 _ rfl; refine bB ?_; refine Kg (cs := #[.int .i64 ((rd_T35 l1 x18_2).f0), .int .i64 ((rd_T35 l1 x18_2).f1.f0), .int .i64 0, .int .i64 0, .int .i64 0, .int .i64 0, .bool false]) ?_ 2 _ rfl; refine bB ?_; refine Kg (cs := #[.int .i64 ((rd_T35 l1 x18_2).f0), .int .i64 0, .int .i64 0, .int .i64 0, .int .i64 0, .int .i64 0, .bool false]) ?_ 1 _ rfl; refine bB ?_; refine Kg (cs := #[.int .i64 0, .int .i64 0, .int .i64 0, .int .i64 0, .int .i64 0, .int .i64 0, .bool false]) ?_ 0 _ rfl; refine bB ?_; exact BK396.out) hb); replace HB := am (Kh (sB HB.out) hb); (try clear hb); obtain ⟨hcz27_0, hcz27_1, hcz27_2, hcz27_3, hcz27_4, hcz27_5, hcz27_6, hfz27_0, hfz27_1, hfz27_2, hfz27_3, hfz27_4, hfz27_5, hfz27_6⟩ := blk7 BK396.out) | (go_at_call 41; (with_reducible refine (impl_IsGrant.calls ((rd_T35 l1 x18_2).f0) ((rd_T35 l1 x18_2).f1.f0) ((rd_T35 l1 x18_2).f1.f1) ((rd_T35 l1 x18_2).f2) ((rd_T35 l1 x18_2).f3) ((rd_T35 l1 x18_2).f4) ((rd_T35 l1 x18_2).f5) true _ A13.out).mono ?_); rintro e w28 ⟨rfl, hb⟩; replace BK394 := am (Kb (bB BK394.out) hb); replace BK396 := am (Kb (bB BK396.out) hb); replace HB := am (Kh (sB HB.out) hb); (try clear hb); obtain ⟨hcz29_0, hcz29_1, hcz29_2, hcz29_3, hcz29_4, hcz29_5, hcz29_6, hfz29_0, hfz29_1, hfz29_2, hfz29_3, hfz29_4, hfz29_5, hfz29_6⟩ := blk7 BK394.out; obtain ⟨hcz30_0, hcz30_1, hcz30_2, hcz30_3, hcz30_4, hcz30_5, hcz30_6, hfz30_0, hfz30_1, hfz30_2, hfz30_3, hfz30_4, hfz30_5, hfz30_6⟩ := blk7 BK396.out) | (go_at_call 42; (with_reducible refine (impl_IsNarrower.calls ((rd_T35 l0 x12_1).f1.f0) ((rd_T35 l0 x12_1).f1.f1) ((rd_T35 l1 x18_2).f1.f0) ((rd_T35 l1 x18_2).f1.f1) true _ A17.out).mono ?_); rintro e w31 ⟨rfl, hb⟩; replace BK394 := am (Kb (bB BK394.out) hb); replace BK396 := am (Kb (bB BK396.out) hb); replace HB := am (Kh (sB HB.out) hb); (try clear hb); obtain ⟨hcz32_0, hcz32_1, hcz32_2, hcz32_3, hcz32_4, hcz32_5, hcz32_6, hfz32_0, hfz32_1, hfz32_2, hfz32_3, hfz32_4, hfz32_5, hfz32_6⟩ := blk7 BK396.out; obtain ⟨hcz33_0, hcz33_1, hcz33_2, hcz33_3, hcz33_4, hcz33_5, hcz33_6, hfz33_0, hfz33_1, hfz33_2, hfz33_3, hfz33_4, hfz33_5, hfz33_6⟩ := blk7 BK394.out))
                   go_roundg k2
                   case measure => have := HK1.out; have := HK2.out; omega
                   case rel => exact ⟨(wrap64 (x12_1 + 1)), (by first | rfl | (simp; done) | (simp [*]; done)), H', ⟨by have := HK1.out; have := HK2.out; omega⟩, ⟨sB HB.out⟩⟩
                  ·rw [if_neg c21] at H
                   have c21q : (rd_T35 l0 x12_1).f5 = false := by simpa using c21
                   clear c21
                   generalize (rd_T35 l0 x12_1).f5 = bz_ at *
                   subst c21q
                   obtain ⟨bq34, hbq34⟩ : ∃ b_ : Bool, b_ = ((rd_T35 l1 x18_2).f5) := ⟨_, rfl⟩
                   replace H : (if (bq34 = true) then (impl_IsWithinGrants.l1 k2 l1 x7_2 l0 (l0.length : Int) x12_1 l1 (l1.length : Int) (wrap64 (x18_2 + 1)) ((rd_T35 l0 x12_1).f0) ((rd_T35 l0 x12_1).f1.f0) ((rd_T35 l0 x12_1).f1.f1) ((rd_T35 l0 x12_1).f2) ((rd_T35 l0 x12_1).f3) ((rd_T35 l0 x12_1).f4) false) else (impl_IsWithinGrants.l0 k2 l1 l0 (l0.length : Int) (wrap64 (x12_1 + 1)))) = some r := by rw [← hbq34] at H; exact H
                   have Nbq34 := am hbq34
                   clear hbq34
                   by_cases c35 : (bq34 = true)
                   ·subst c35
                    (try (have z_ := A11.out; rw [← Nbq34.out] at z_; replace A11 := am z_; clear z_))
                    (try (have z_ := A13.out; rw [← Nbq34.out] at z_; replace A13 := am z_; clear z_))
                    (try (have z_ := A17.out; rw [← Nbq34.out] at z_; replace A17 := am z_; clear z_))
                    replace H := hT H
                    have H' := am H
                    clear H
                    have p395 : 0 ≤ (x18_2 : Int) := Kp (by first | (with_reducible assumption) | assumption)
                    have q395 : x18_2 < (l1.length : Int) := Kp (by first | (with_reducible assumption) | assumption)
                    obtain ⟨ad395, e395, hx395_0, hx395_1, hx395_2, hx395_3, hx395_4, hx395_5, hx395_6⟩ := at_T35 HR1.out x18_2 p395 q395
                    (try rw [← Nbq34.out] at hx395_6)
                    cases e395
                    replace hx395_0 := hc_ HB hx395_0
                    replace hx395_1 := hc_ HB hx395_1
                    replace hx395_2 := hc_ HB hx395_2
                    replace hx395_3 := hc_ HB hx395_3
                    replace hx395_4 := hc_ HB hx395_4
                    replace hx395_5 := hc_ HB hx395_5
                    replace hx395_6 := hc_ HB hx395_6
                    replace p395 := eq_true p395
                    replace q395 := eq_true q395
                    go_wp2_with (first | ((with_reducible refine gate_dst (N := 9) rfl ?_); refine bE 9 #[.int .i64 0, .int .i64 0, .int .i64 0, .int .i64 0, .int .i64 0, .int .i64 0, .bool false] 35 ?_; intro gb396 hg w36 hbox hb; have n0_ := am (Kb (bB BK394.out) hb); have q_ := hbx_ (sB HB.out) hg hb; have n1_ := q_.1; have n2_ := am (hbox); have n3_ := q_.2; have n4_ := n3_; have n5_ := nL hg (bB BK394.out); have n6_ := nR hg (bB BK394.out); clear BK394; clear HB; have BK394 := n0_; have HB := n1_; have BK396 := n2_; have GW396 := n3_; have GE396 := n4_; have NB394_396 := n5_; have NB396_394 := n6_; clear n0_ n1_ n2_ n3_ n4_ n5_ n6_; clear hb hbox hg; have hnb37 := NB396_394.out; have hnc37 := NB394_396.out; obtain ⟨hcz38_0, hcz38_1, hcz38_2, hcz38_3, hcz38_4, hcz38_5, hcz38_6, hfz38_0, hfz38_1, hfz38_2, hfz38_3, hfz38_4, hfz38_5, hfz38_6⟩ := blk7 BK396.out; obtain ⟨hcz39_0, hcz39_1, hcz39_2, hcz39_3, hcz39_4, hcz39_5, hcz39_6, hfz39_0, hfz39_1, hfz39_2, hfz39_3, hfz39_4, hfz39_5, hfz39_6⟩ := blk7 BK394.out) | ((with_reducible refine gate_callee (f := 41) rfl ?_); refine gL (some 23) Try.func41 #[.agg #[.int .i64 ((rd_T35 l0 x12_1).f0), .int .i64 ((rd_T35 l0 x12_1).f1.f0), .int .i64 ((rd_T35 l0 x12_1).f1.f1), .int .i64 ((rd_T35 l0 x12_1).f2), .int .i64 ((rd_T35 l0 x12_1).f3), .int .i64 ((rd_T35 l0 x12_1).f4), .bool false]] ?_; (with_reducible refine (impl_IsGrant.calls ((rd_T35 l0 x12_1).f0) ((rd_T35 l0 x12_1).f1.f0) ((rd_T35 l0 x12_1).f1.f1) ((rd_T35 l0 x12_1).f2) ((rd_T35 l0 x12_1).f3) ((rd_T35 l0 x12_1).f4) false true _ A11.out).mono ?_); rintro e w40 ⟨rfl, hb⟩; refine ⟨_, rfl, ?_⟩; replace BK394 := am (Kb (fB NB394_396.out BK394.out) hb); replace BK396 := am (Kb (g := gb396) (o := .cells #[.int .i64 ((rd_T35 l1 x18_2).f0), .int .i64 ((rd_T35 l1 x18_2).f1.f0), .int .i64 ((rd_T35 l1 x18_2).f1.f1), .int .i64 ((rd_T35 l1 x18_2).f2), .int .i64 ((rd_T35 l1 x18_2).f3), .int .i64 ((rd_T35 l1 x18_2).f4), .bool true] 35 (0, 0)) (by refine bB ?_; refine Kg (cs := #[.int .i64 ((rd_T35 l1 x18_2).f0), .int .i64 ((rd_T35 l1 x18_2).f1.f0), .int .i64 ((rd_T35 l1 x18_2).f1.f1), .int .i64 ((rd_T35 l1 x18_2).f2), .int .i64 ((rd_T35 l1 x18_2).f3), .int .i64 ((rd_T35 l1 x18_2).f4), .bool false]) ?_ 6 _ rfl; refine bB ?_; refine Kg (cs := #[.int .i64 ((rd_T35 l1 x18_2).f0), .int .i64 ((rd_T35 l1 x18_2).f1.f0), .int .i64 ((rd_T35 l1 x18_2).f1.f1), .int .i64 ((rd_T35 l1 x18_2).f2), .int .i64 ((rd_T35 l1 x18_2).f3), .int .i64 0, .bool false]) ?_ 5 _ rfl; refine bB ?_; refine Kg (cs := #[.int .i64 ((rd_T35 l1 x18_2).f0), .int .i64 ((rd_T35 l1 x18_2).f1.f0), .int .i64 ((rd_T35 l1 x18_2).f1.f1), .int .i64 ((rd_T35 l1 x18_2).f2), .int .i64 0, .int .i64 0, .bool false]) ?_ 4 _ rfl; refine bB ?_; refine Kg (cs := #[.int .i64 ((rd_T35 l1 x18_2).f0), .int .i64 ((rd_T35 l1 x18_2).f1.f0), .int .i64 ((rd_T35 l1 x18_2).f1.f1), .int .i64 0, .int .i64 0, .int .i64 0, .bool false]) ?_ 3 _ rfl; refine bB ?_; refine Kg (cs := #[.int .i64 ((rd_T35 l1 x18_2).f0), .int .i64 ((rd_T35 l1 x18_2).f1.f0), .int .i64 0, .int .i64 0, .int .i64 0, .int .i64 0, .bool false]) ?_ 2 _ rfl; refine bB ?_; refine Kg (cs := #[.int .i64 ((rd_T35 l1 x18_2).f0), .int .i64 0, .int .i64 0, .int .i64 0, .int .i64 0, .int .i64 0, .bool false]) ?_ 1 _ rfl; refine bB ?_; refine Kg (cs := #[.int .i64 0, .int .i64 0, .int .i64 0, .int .i64 0, .int .i64 0, .int .i64 0, .bool false]) ?_ 0 _ rfl; refine bB ?_; exact BK396.out) hb); replace HB := am (Kh (sB HB.out) hb); (try clear hb); obtain ⟨hcz41_0, hcz41_1, hcz41_2, hcz41_3, hcz41_4, hcz41_5, hcz41_6, hfz41_0, hfz41_1, hfz41_2, hfz41_3, hfz41_4, hfz41_5, hfz41_6⟩ := blk7 BK396.out) | (go_at_call 41; (with_reducible refine (impl_IsGrant.calls ((rd_T35 l1 x18_2).f0) ((rd_T35 l1 x18_2).f1.f0) ((rd_T35 l1 x18_2).f1.f1) ((rd_T35 l1 x18_2).f2) ((rd_T35 l1 x18_2).f3) ((rd_T35 l1 x18_2).f4) true true _ A13.out).mono ?_); rintro e w42 ⟨rfl, hb⟩; replace BK394 := am (Kb (bB BK394.out) hb); replace BK396 := am (Kb (bB BK396.out) hb); replace HB := am (Kh (sB HB.out) hb); (try clear hb); obtain ⟨hcz43_0, hcz43_1, hcz43_2, hcz43_3, hcz43_4, hcz43_5, hcz43_6, hfz43_0, hfz43_1, hfz43_2, hfz43_3, hfz43_4, hfz43_5, hfz43_6⟩ := blk7 BK394.out; obtain ⟨hcz44_0, hcz44_1, hcz44_2, hcz44_3, hcz44_4, hcz44_5, hcz44_6, hfz44_0, hfz44_1, hfz44_2, hfz44_3, hfz44_4, hfz44_5, hfz44_6⟩ := blk7 BK396.out) | (go_at_call 42; (with_reducible refine (impl_IsNarrower.calls ((rd_T35 l0 x12_1).f1.f0) ((rd_T35 l0 x12_1).f1.f1) ((rd_T35 l1 x18_2).f1.f0) ((rd_T35 l1 x18_2).f1.f1) true _ A17.out).mono ?_); rintro e w45 ⟨rfl, hb⟩; replace BK394 := am (Kb (bB BK394.out) hb); replace BK396 := am (Kb (bB BK396.out) hb); replace HB := am (Kh (sB HB.out) hb); (try clear hb); obtain ⟨hcz46_0, hcz46_1, hcz46_2, hcz46_3, hcz46_4, hcz46_5, hcz46_6, hfz46_0, hfz46_1, hfz46_2, hfz46_3, hfz46_4, hfz46_5, hfz46_6⟩ := blk7 BK396.out; obtain ⟨hcz47_0, hcz47_1, hcz47_2, hcz47_3, hcz47_4, hcz47_5, hcz47_6, hfz47_0, hfz47_1, hfz47_2, hfz47_3, hfz47_4, hfz47_5, hfz47_6⟩ := blk7 BK394.out))
                    go_roundg k2
                    case measure => have := HK1.out; have := HK2.out; omega
                    case rel => exact ⟨(x7_2), (wrap64 (x18_2 + 1)), (by first | rfl | (simp; done) | (simp [*]; done)), (by first | rfl | (simp; done) | (simp [*]; done)), H', ⟨by have := HK1.out; have := HK2.out; omega⟩, ⟨bB BK394.out⟩, ⟨sB HB.out⟩⟩
                   ·replace c35 := bF c35
                    subst c35
                    (try (have z_ := A11.out; rw [← Nbq34.out] at z_; replace A11 := am z_; clear z_))
                    (try (have z_ := A13.out; rw [← Nbq34.out] at z_; replace A13 := am z_; clear z_))
                    (try (have z_ := A17.out; rw [← Nbq34.out] at z_; replace A17 := am z_; clear z_))
                    replace H := hF H
                    have H' := am H
                    clear H
                    have p395 : 0 ≤ (x18_2 : Int) := Kp (by first | (with_reducible assumption) | assumption)
                    have q395 : x18_2 < (l1.length : Int) := Kp (by first | (with_reducible assumption) | assumption)
                    obtain ⟨ad395, e395, hx395_0, hx395_1, hx395_2, hx395_3, hx395_4, hx395_5, hx395_6⟩ := at_T35 HR1.out x18_2 p395 q395
                    (try rw [← Nbq34.out] at hx395_6)
                    cases e395
                    replace hx395_0 := hc_ HB hx395_0
                    replace hx395_1 := hc_ HB hx395_1
                    replace hx395_2 := hc_ HB hx395_2
                    replace hx395_3 := hc_ HB hx395_3
                    replace hx395_4 := hc_ HB hx395_4
                    replace hx395_5 := hc_ HB hx395_5
                    replace hx395_6 := hc_ HB hx395_6
                    replace p395 := eq_true p395
                    replace q395 := eq_true q395
                    go_wp2_with (first | ((with_reducible refine gate_dst (N := 9) rfl ?_); refine bE 9 #[.int .i64 0, .int .i64 0, .int .i64 0, .int .i64 0, .int .i64 0, .int .i64 0, .bool false] 35 ?_; intro gb396 hg w48 hbox hb; have n0_ := am (Kb (bB BK394.out) hb); have q_ := hbx_ (sB HB.out) hg hb; have n1_ := q_.1; have n2_ := am (hbox); have n3_ := q_.2; have n4_ := n3_; have n5_ := nL hg (bB BK394.out); have n6_ := nR hg (bB BK394.out); clear BK394; clear HB; have BK394 := n0_; have HB := n1_; have BK396 := n2_; have GW396 := n3_; have GE396 := n4_; have NB394_396 := n5_; have NB396_394 := n6_; clear n0_ n1_ n2_ n3_ n4_ n5_ n6_; clear hb hbox hg; have hnb49 := NB396_394.out; have hnc49 := NB394_396.out; obtain ⟨hcz50_0, hcz50_1, hcz50_2, hcz50_3, hcz50_4, hcz50_5, hcz50_6, hfz50_0, hfz50_1, hfz50_2, hfz50_3, hfz50_4, hfz50_5, hfz50_6⟩ := blk7 BK396.out; obtain ⟨hcz51_0, hcz51_1, hcz51_2, hcz51_3, hcz51_4, hcz51_5, hcz51_6, hfz51_0, hfz51_1, hfz51_2, hfz51_3, hfz51_4, hfz51_5, hfz51_6⟩ := blk7 BK394.out) | ((with_reducible refine gate_callee (f := 41) rfl ?_); refine gL (some 23) Try.func41 #[.agg #[.int .i64 ((rd_T35 l0 x12_1).f0), .int .i64 ((rd_T35 l0 x12_1).f1.f0), .int .i64 ((rd_T35 l0 x12_1).f1.f1), .int .i64 ((rd_T35 l0 x12_1).f2), .int .i64 ((rd_T35 l0 x12_1).f3), .int .i64 ((rd_T35 l0 x12_1).f4), .bool false]] ?_; (with_reducible refine (impl_IsGrant.calls ((rd_T35 l0 x12_1).f0) ((rd_T35 l0 x12_1).f1.f0) ((rd_T35 l0 x12_1).f1.f1) ((rd_T35 l0 x12_1).f2) ((rd_T35 l0 x12_1).f3) ((rd_T35 l0 x12_1).f4) false true _ A11.out).mono ?_); rintro e w52 ⟨rfl, hb⟩; refine ⟨_, rfl, ?_⟩; replace BK394 := am (Kb (fB NB394_396.out BK394.out) hb); replace BK396 := am (Kb (g := gb396) (o := .cells #[.int .i64 ((rd_T35 l1 x18_2).f0), .int .i64 ((rd_T35 l1 x18_2).f1.f0), .int .i64 ((rd_T35 l1 x18_2).f1.f1), .int .i64 ((rd_T35 l1 x18_2).f2), .int .i64 ((rd_T35 l1 x18_2).f3), .int .i64 ((rd_T35 l1 x18_2).f4), .bool false] 35 (0, 0)) (by refine bB ?_; refine Kg (cs := #[.int .i64 ((rd_T35 l1 x18_2).f0), .int .i64 ((rd_T35 l1 x18_2).f1.f0), .int .i64 ((rd_T35 l1 x18_2).f1.f1), .int .i64 ((rd_T35 l1 x18_2).f2), .int .i64 ((rd_T35 l1 x18_2).f3), .int .i64 ((rd_T35 l1 x18_2).f4), .bool false]) ?_ 6 _ rfl; refine bB ?_; refine Kg (cs := #[.int .i64 ((rd_T35 l1 x18_2).f0), .int .i64 ((rd_T35 l1 x18_2).f1.f0), .int .i64 ((rd_T35 l1 x18_2).f1.f1), .int .i64 ((rd_T35 l1 x18_2).f2), .int .i64 ((rd_T35 l1 x18_2).f3), .int .i64 0, .bool false]) ?_ 5 _ rfl; refine bB ?_; refine Kg (cs := #[.int .i64 ((rd_T35 l1 x18_2).f0), .int .i64 ((rd_T35 l1 x18_2).f1.f0), .int .i64 ((rd_T35 l1 x18_2).f1.f1), .int .i64 ((rd_T35 l1 x18_2).f2), .int .i64 0, .int .i64 0, .bool false]) ?_ 4 _ rfl; refine bB ?_; refine Kg (cs := #[.int .i64 ((rd_T35 l1 x18_2).f0), .int .i64 ((rd_T35 l1 x18_2).f1.f0), .int .i64 ((rd_T35 l1 x18_2).f1.f1), .int .i64 0, .int .i64 0, .int .i64 0, .bool false]) ?_ 3 _ rfl; refine bB ?_; refine Kg (cs := #[.int .i64 ((rd_T35 l1 x18_2).f0), .int .i64 ((rd_T35 l1 x18_2).f1.f0), .int .i64 0, .int .i64 0, .int .i64 0, .int .i64 0, .bool false]) ?_ 2 _ rfl; refine bB ?_; refine Kg (cs := #[.int .i64 ((rd_T35 l1 x18_2).f0), .int .i64 0, .int .i64 0, .int .i64 0, .int .i64 0, .int .i64 0, .bool false]) ?_ 1 _ rfl; refine bB ?_; refine Kg (cs := #[.int .i64 0, .int .i64 0, .int .i64 0, .int .i64 0, .int .i64 0, .int .i64 0, .bool false]) ?_ 0 _ rfl; refine bB ?_; exact BK396.out) hb); replace HB := am (Kh (sB HB.out) hb); (try clear hb); obtain ⟨hcz53_0, hcz53_1, hcz53_2, hcz53_3, hcz53_4, hcz53_5, hcz53_6, hfz53_0, hfz53_1, hfz53_2, hfz53_3, hfz53_4, hfz53_5, hfz53_6⟩ := blk7 BK396.out) | (go_at_call 41; (with_reducible refine (impl_IsGrant.calls ((rd_T35 l1 x18_2).f0) ((rd_T35 l1 x18_2).f1.f0) ((rd_T35 l1 x18_2).f1.f1) ((rd_T35 l1 x18_2).f2) ((rd_T35 l1 x18_2).f3) ((rd_T35 l1 x18_2).f4) false true _ A13.out).mono ?_); rintro e w54 ⟨rfl, hb⟩; replace BK394 := am (Kb (bB BK394.out) hb); replace BK396 := am (Kb (bB BK396.out) hb); replace HB := am (Kh (sB HB.out) hb); (try clear hb); obtain ⟨hcz55_0, hcz55_1, hcz55_2, hcz55_3, hcz55_4, hcz55_5, hcz55_6, hfz55_0, hfz55_1, hfz55_2, hfz55_3, hfz55_4, hfz55_5, hfz55_6⟩ := blk7 BK394.out; obtain ⟨hcz56_0, hcz56_1, hcz56_2, hcz56_3, hcz56_4, hcz56_5, hcz56_6, hfz56_0, hfz56_1, hfz56_2, hfz56_3, hfz56_4, hfz56_5, hfz56_6⟩ := blk7 BK396.out) | (go_at_call 42; (with_reducible refine (impl_IsNarrower.calls ((rd_T35 l0 x12_1).f1.f0) ((rd_T35 l0 x12_1).f1.f1) ((rd_T35 l1 x18_2).f1.f0) ((rd_T35 l1 x18_2).f1.f1) true _ A17.out).mono ?_); rintro e w57 ⟨rfl, hb⟩; replace BK394 := am (Kb (bB BK394.out) hb); replace BK396 := am (Kb (bB BK396.out) hb); replace HB := am (Kh (sB HB.out) hb); (try clear hb); obtain ⟨hcz58_0, hcz58_1, hcz58_2, hcz58_3, hcz58_4, hcz58_5, hcz58_6, hfz58_0, hfz58_1, hfz58_2, hfz58_3, hfz58_4, hfz58_5, hfz58_6⟩ := blk7 BK396.out; obtain ⟨hcz59_0, hcz59_1, hcz59_2, hcz59_3, hcz59_4, hcz59_5, hcz59_6, hfz59_0, hfz59_1, hfz59_2, hfz59_3, hfz59_4, hfz59_5, hfz59_6⟩ := blk7 BK394.out))
                    go_roundg k2
                    case measure => have := HK1.out; have := HK2.out; omega
                    case rel => exact ⟨(wrap64 (x12_1 + 1)), (by first | rfl | (simp; done) | (simp [*]; done)), H', ⟨by have := HK1.out; have := HK2.out; omega⟩, ⟨sB HB.out⟩⟩
                 ·rw [if_neg c20] at H
                  have c20b0 : decide (((rd_T35 l0 x12_1).f4) ≤ ((rd_T35 l1 x18_2).f4)) = false := decide_eq_false c20
                  clear c20
                  have H' := am H
                  clear H
                  have p395 : 0 ≤ (x18_2 : Int) := Kp (by first | (with_reducible assumption) | assumption)
                  have q395 : x18_2 < (l1.length : Int) := Kp (by first | (with_reducible assumption) | assumption)
                  obtain ⟨ad395, e395, hx395_0, hx395_1, hx395_2, hx395_3, hx395_4, hx395_5, hx395_6⟩ := at_T35 HR1.out x18_2 p395 q395
                  cases e395
                  replace hx395_0 := hc_ HB hx395_0
                  replace hx395_1 := hc_ HB hx395_1
                  replace hx395_2 := hc_ HB hx395_2
                  replace hx395_3 := hc_ HB hx395_3
                  replace hx395_4 := hc_ HB hx395_4
                  replace hx395_5 := hc_ HB hx395_5
                  replace hx395_6 := hc_ HB hx395_6
                  replace p395 := eq_true p395
                  replace q395 := eq_true q395
                  go_wp2_with (first | ((with_reducible refine gate_dst (N := 9) rfl ?_); refine bE 9 #[.int .i64 0, .int .i64 0, .int .i64 0, .int .i64 0, .int .i64 0, .int .i64 0, .bool false] 35 ?_; intro gb396 hg w60 hbox hb; have n0_ := am (Kb (bB BK394.out) hb); have q_ := hbx_ (sB HB.out) hg hb; have n1_ := q_.1; have n2_ := am (hbox); have n3_ := q_.2; have n4_ := n3_; have n5_ := nL hg (bB BK394.out); have n6_ := nR hg (bB BK394.out); clear BK394; clear HB; have BK394 := n0_; have HB := n1_; have BK396 := n2_; have GW396 := n3_; have GE396 := n4_; have NB394_396 := n5_; have NB396_394 := n6_; clear n0_ n1_ n2_ n3_ n4_ n5_ n6_; clear hb hbox hg; have hnb61 := NB396_394.out; have hnc61 := NB394_396.out; obtain ⟨hcz62_0, hcz62_1, hcz62_2, hcz62_3, hcz62_4, hcz62_5, hcz62_6, hfz62_0, hfz62_1, hfz62_2, hfz62_3, hfz62_4, hfz62_5, hfz62_6⟩ := blk7 BK396.out; obtain ⟨hcz63_0, hcz63_1, hcz63_2, hcz63_3, hcz63_4, hcz63_5, hcz63_6, hfz63_0, hfz63_1, hfz63_2, hfz63_3, hfz63_4, hfz63_5, hfz63_6⟩ := blk7 BK394.out) | ((with_reducible refine gate_callee (f := 41) rfl ?_); refine gL (some 23) Try.func41 #[.agg #[.int .i64 ((rd_T35 l0 x12_1).f0), .int .i64 ((rd_T35 l0 x12_1).f1.f0), .int .i64 ((rd_T35 l0 x12_1).f1.f1), .int .i64 ((rd_T35 l0 x12_1).f2), .int .i64 ((rd_T35 l0 x12_1).f3), .int .i64 ((rd_T35 l0 x12_1).f4), .bool ((rd_T35 l0 x12_1).f5)]] ?_; (with_reducible refine (impl_IsGrant.calls ((rd_T35 l0 x12_1).f0) ((rd_T35 l0 x12_1).f1.f0) ((rd_T35 l0 x12_1).f1.f1) ((rd_T35 l0 x12_1).f2) ((rd_T35 l0 x12_1).f3) ((rd_T35 l0 x12_1).f4) ((rd_T35 l0 x12_1).f5) true _ A11.out).mono ?_); rintro e w64 ⟨rfl, hb⟩; refine ⟨_, rfl, ?_⟩; replace BK394 := am (Kb (fB NB394_396.out BK394.out) hb); replace BK396 := am (Kb (g := gb396) (o := .cells #[.int .i64 ((rd_T35 l1 x18_2).f0), .int .i64 ((rd_T35 l1 x18_2).f1.f0), .int .i64 ((rd_T35 l1 x18_2).f1.f1), .int .i64 ((rd_T35 l1 x18_2).f2), .int .i64 ((rd_T35 l1 x18_2).f3), .int .i64 ((rd_T35 l1 x18_2).f4), .bool ((rd_T35 l1 x18_2).f5)] 35 (0, 0)) (by refine bB ?_; refine Kg (cs := #[.int .i64 ((rd_T35 l1 x18_2).f0), .int .i64 ((rd_T35 l1 x18_2).f1.f0), .int .i64 ((rd_T35 l1 x18_2).f1.f1), .int .i64 ((rd_T35 l1 x18_2).f2), .int .i64 ((rd_T35 l1 x18_2).f3), .int .i64 ((rd_T35 l1 x18_2).f4), .bool false]) ?_ 6 _ rfl; refine bB ?_; refine Kg (cs := #[.int .i64 ((rd_T35 l1 x18_2).f0), .int .i64 ((rd_T35 l1 x18_2).f1.f0), .int .i64 ((rd_T35 l1 x18_2).f1.f1), .int .i64 ((rd_T35 l1 x18_2).f2), .int .i64 ((rd_T35 l1 x18_2).f3), .int .i64 0, .bool false]) ?_ 5 _ rfl; refine bB ?_; refine Kg (cs := #[.int .i64 ((rd_T35 l1 x18_2).f0), .int .i64 ((rd_T35 l1 x18_2).f1.f0), .int .i64 ((rd_T35 l1 x18_2).f1.f1), .int .i64 ((rd_T35 l1 x18_2).f2), .int .i64 0, .int .i64 0, .bool false]) ?_ 4 _ rfl; refine bB ?_; refine Kg (cs := #[.int .i64 ((rd_T35 l1 x18_2).f0), .int .i64 ((rd_T35 l1 x18_2).f1.f0), .int .i64 ((rd_T35 l1 x18_2).f1.f1), .int .i64 0, .int .i64 0, .int .i64 0, .bool false]) ?_ 3 _ rfl; refine bB ?_; refine Kg (cs := #[.int .i64 ((rd_T35 l1 x18_2).f0), .int .i64 ((rd_T35 l1 x18_2).f1.f0), .int .i64 0, .int .i64 0, .int .i64 0, .int .i64 0, .bool false]) ?_ 2 _ rfl; refine bB ?_; refine Kg (cs := #[.int .i64 ((rd_T35 l1 x18_2).f0), .int .i64 0, .int .i64 0, .int .i64 0, .int .i64 0, .int .i64 0, .bool false]) ?_ 1 _ rfl; refine bB ?_; refine Kg (cs := #[.int .i64 0, .int .i64 0, .int .i64 0, .int .i64 0, .int .i64 0, .int .i64 0, .bool false]) ?_ 0 _ rfl; refine bB ?_; exact BK396.out) hb); replace HB := am (Kh (sB HB.out) hb); (try clear hb); obtain ⟨hcz65_0, hcz65_1, hcz65_2, hcz65_3, hcz65_4, hcz65_5, hcz65_6, hfz65_0, hfz65_1, hfz65_2, hfz65_3, hfz65_4, hfz65_5, hfz65_6⟩ := blk7 BK396.out) | (go_at_call 41; (with_reducible refine (impl_IsGrant.calls ((rd_T35 l1 x18_2).f0) ((rd_T35 l1 x18_2).f1.f0) ((rd_T35 l1 x18_2).f1.f1) ((rd_T35 l1 x18_2).f2) ((rd_T35 l1 x18_2).f3) ((rd_T35 l1 x18_2).f4) ((rd_T35 l1 x18_2).f5) true _ A13.out).mono ?_); rintro e w66 ⟨rfl, hb⟩; replace BK394 := am (Kb (bB BK394.out) hb); replace BK396 := am (Kb (bB BK396.out) hb); replace HB := am (Kh (sB HB.out) hb); (try clear hb); obtain ⟨hcz67_0, hcz67_1, hcz67_2, hcz67_3, hcz67_4, hcz67_5, hcz67_6, hfz67_0, hfz67_1, hfz67_2, hfz67_3, hfz67_4, hfz67_5, hfz67_6⟩ := blk7 BK394.out; obtain ⟨hcz68_0, hcz68_1, hcz68_2, hcz68_3, hcz68_4, hcz68_5, hcz68_6, hfz68_0, hfz68_1, hfz68_2, hfz68_3, hfz68_4, hfz68_5, hfz68_6⟩ := blk7 BK396.out) | (go_at_call 42; (with_reducible refine (impl_IsNarrower.calls ((rd_T35 l0 x12_1).f1.f0) ((rd_T35 l0 x12_1).f1.f1) ((rd_T35 l1 x18_2).f1.f0) ((rd_T35 l1 x18_2).f1.f1) true _ A17.out).mono ?_); rintro e w69 ⟨rfl, hb⟩; replace BK394 := am (Kb (bB BK394.out) hb); replace BK396 := am (Kb (bB BK396.out) hb); replace HB := am (Kh (sB HB.out) hb); (try clear hb); obtain ⟨hcz70_0, hcz70_1, hcz70_2, hcz70_3, hcz70_4, hcz70_5, hcz70_6, hfz70_0, hfz70_1, hfz70_2, hfz70_3, hfz70_4, hfz70_5, hfz70_6⟩ := blk7 BK396.out; obtain ⟨hcz71_0, hcz71_1, hcz71_2, hcz71_3, hcz71_4, hcz71_5, hcz71_6, hfz71_0, hfz71_1, hfz71_2, hfz71_3, hfz71_4, hfz71_5, hfz71_6⟩ := blk7 BK394.out))
                  go_roundg k2
                  case measure => have := HK1.out; have := HK2.out; omega
                  case rel => exact ⟨(x7_2), (wrap64 (x18_2 + 1)), (by first | rfl | (simp; done) | (simp [*]; done)), (by first | rfl | (simp; done) | (simp [*]; done)), H', ⟨by have := HK1.out; have := HK2.out; omega⟩, ⟨bB BK394.out⟩, ⟨sB HB.out⟩⟩
                ·rw [if_neg c19] at H
                 have c19b0 : decide (((rd_T35 l1 x18_2).f3) ≤ ((rd_T35 l0 x12_1).f3)) = false := decide_eq_false c19
                 clear c19
                 have H' := am H
                 clear H
                 have p395 : 0 ≤ (x18_2 : Int) := Kp (by first | (with_reducible assumption) | assumption)
                 have q395 : x18_2 < (l1.length : Int) := Kp (by first | (with_reducible assumption) | assumption)
                 obtain ⟨ad395, e395, hx395_0, hx395_1, hx395_2, hx395_3, hx395_4, hx395_5, hx395_6⟩ := at_T35 HR1.out x18_2 p395 q395
                 cases e395
                 replace hx395_0 := hc_ HB hx395_0
                 replace hx395_1 := hc_ HB hx395_1
                 replace hx395_2 := hc_ HB hx395_2
                 replace hx395_3 := hc_ HB hx395_3
                 replace hx395_4 := hc_ HB hx395_4
                 replace hx395_5 := hc_ HB hx395_5
                 replace hx395_6 := hc_ HB hx395_6
                 replace p395 := eq_true p395
                 replace q395 := eq_true q395
                 go_wp2_with (first | ((with_reducible refine gate_dst (N := 9) rfl ?_); refine bE 9 #[.int .i64 0, .int .i64 0, .int .i64 0, .int .i64 0, .int .i64 0, .int .i64 0, .bool false] 35 ?_; intro gb396 hg w72 hbox hb; have n0_ := am (Kb (bB BK394.out) hb); have q_ := hbx_ (sB HB.out) hg hb; have n1_ := q_.1; have n2_ := am (hbox); have n3_ := q_.2; have n4_ := n3_; have n5_ := nL hg (bB BK394.out); have n6_ := nR hg (bB BK394.out); clear BK394; clear HB; have BK394 := n0_; have HB := n1_; have BK396 := n2_; have GW396 := n3_; have GE396 := n4_; have NB394_396 := n5_; have NB396_394 := n6_; clear n0_ n1_ n2_ n3_ n4_ n5_ n6_; clear hb hbox hg; have hnb73 := NB396_394.out; have hnc73 := NB394_396.out; obtain ⟨hcz74_0, hcz74_1, hcz74_2, hcz74_3, hcz74_4, hcz74_5, hcz74_6, hfz74_0, hfz74_1, hfz74_2, hfz74_3, hfz74_4, hfz74_5, hfz74_6⟩ := blk7 BK396.out; obtain ⟨hcz75_0, hcz75_1, hcz75_2, hcz75_3, hcz75_4, hcz75_5, hcz75_6, hfz75_0, hfz75_1, hfz75_2, hfz75_3, hfz75_4, hfz75_5, hfz75_6⟩ := blk7 BK394.out) | ((with_reducible refine gate_callee (f := 41) rfl ?_); refine gL (some 23) Try.func41 #[.agg #[.int .i64 ((rd_T35 l0 x12_1).f0), .int .i64 ((rd_T35 l0 x12_1).f1.f0), .int .i64 ((rd_T35 l0 x12_1).f1.f1), .int .i64 ((rd_T35 l0 x12_1).f2), .int .i64 ((rd_T35 l0 x12_1).f3), .int .i64 ((rd_T35 l0 x12_1).f4), .bool ((rd_T35 l0 x12_1).f5)]] ?_; (with_reducible refine (impl_IsGrant.calls ((rd_T35 l0 x12_1).f0) ((rd_T35 l0 x12_1).f1.f0) ((rd_T35 l0 x12_1).f1.f1) ((rd_T35 l0 x12_1).f2) ((rd_T35 l0 x12_1).f3) ((rd_T35 l0 x12_1).f4) ((rd_T35 l0 x12_1).f5) true _ A11.out).mono ?_); rintro e w76 ⟨rfl, hb⟩; refine ⟨_, rfl, ?_⟩; replace BK394 := am (Kb (fB NB394_396.out BK394.out) hb); replace BK396 := am (Kb (g := gb396) (o := .cells #[.int .i64 ((rd_T35 l1 x18_2).f0), .int .i64 ((rd_T35 l1 x18_2).f1.f0), .int .i64 ((rd_T35 l1 x18_2).f1.f1), .int .i64 ((rd_T35 l1 x18_2).f2), .int .i64 ((rd_T35 l1 x18_2).f3), .int .i64 ((rd_T35 l1 x18_2).f4), .bool ((rd_T35 l1 x18_2).f5)] 35 (0, 0)) (by refine bB ?_; refine Kg (cs := #[.int .i64 ((rd_T35 l1 x18_2).f0), .int .i64 ((rd_T35 l1 x18_2).f1.f0), .int .i64 ((rd_T35 l1 x18_2).f1.f1), .int .i64 ((rd_T35 l1 x18_2).f2), .int .i64 ((rd_T35 l1 x18_2).f3), .int .i64 ((rd_T35 l1 x18_2).f4), .bool false]) ?_ 6 _ rfl; refine bB ?_; refine Kg (cs := #[.int .i64 ((rd_T35 l1 x18_2).f0), .int .i64 ((rd_T35 l1 x18_2).f1.f0), .int .i64 ((rd_T35 l1 x18_2).f1.f1), .int .i64 ((rd_T35 l1 x18_2).f2), .int .i64 ((rd_T35 l1 x18_2).f3), .int .i64 0, .bool false]) ?_ 5 _ rfl; refine bB ?_; refine Kg (cs := #[.int .i64 ((rd_T35 l1 x18_2).f0), .int .i64 ((rd_T35 l1 x18_2).f1.f0), .int .i64 ((rd_T35 l1 x18_2).f1.f1), .int .i64 ((rd_T35 l1 x18_2).f2), .int .i64 0, .int .i64 0, .bool false]) ?_ 4 _ rfl; refine bB ?_; refine Kg (cs := #[.int .i64 ((rd_T35 l1 x18_2).f0), .int .i64 ((rd_T35 l1 x18_2).f1.f0), .int .i64 ((rd_T35 l1 x18_2).f1.f1), .int .i64 0, .int .i64 0, .int .i64 0, .bool false]) ?_ 3 _ rfl; refine bB ?_; refine Kg (cs := #[.int .i64 ((rd_T35 l1 x18_2).f0), .int .i64 ((rd_T35 l1 x18_2).f1.f0), .int .i64 0, .int .i64 0, .int .i64 0, .int .i64 0, .bool false]) ?_ 2 _ rfl; refine bB ?_; refine Kg (cs := #[.int .i64 ((rd_T35 l1 x18_2).f0), .int .i64 0, .int .i64 0, .int .i64 0, .int .i64 0, .int .i64 0, .bool false]) ?_ 1 _ rfl; refine bB ?_; refine Kg (cs := #[.int .i64 0, .int .i64 0, .int .i64 0, .int .i64 0, .int .i64 0, .int .i64 0, .bool false]) ?_ 0 _ rfl; refine bB ?_; exact BK396.out) hb); replace HB := am (Kh (sB HB.out) hb); (try clear hb); obtain ⟨hcz77_0, hcz77_1, hcz77_2, hcz77_3, hcz77_4, hcz77_5, hcz77_6, hfz77_0, hfz77_1, hfz77_2, hfz77_3, hfz77_4, hfz77_5, hfz77_6⟩ := blk7 BK396.out) | (go_at_call 41; (with_reducible refine (impl_IsGrant.calls ((rd_T35 l1 x18_2).f0) ((rd_T35 l1 x18_2).f1.f0) ((rd_T35 l1 x18_2).f1.f1) ((rd_T35 l1 x18_2).f2) ((rd_T35 l1 x18_2).f3) ((rd_T35 l1 x18_2).f4) ((rd_T35 l1 x18_2).f5) true _ A13.out).mono ?_); rintro e w78 ⟨rfl, hb⟩; replace BK394 := am (Kb (bB BK394.out) hb); replace BK396 := am (Kb (bB BK396.out) hb); replace HB := am (Kh (sB HB.out) hb); (try clear hb); obtain ⟨hcz79_0, hcz79_1, hcz79_2, hcz79_3, hcz79_4, hcz79_5, hcz79_6, hfz79_0, hfz79_1, hfz79_2, hfz79_3, hfz79_4, hfz79_5, hfz79_6⟩ := blk7 BK394.out; obtain ⟨hcz80_0, hcz80_1, hcz80_2, hcz80_3, hcz80_4, hcz80_5, hcz80_6, hfz80_0, hfz80_1, hfz80_2, hfz80_3, hfz80_4, hfz80_5, hfz80_6⟩ := blk7 BK396.out) | (go_at_call 42; (with_reducible refine (impl_IsNarrower.calls ((rd_T35 l0 x12_1).f1.f0) ((rd_T35 l0 x12_1).f1.f1) ((rd_T35 l1 x18_2).f1.f0) ((rd_T35 l1 x18_2).f1.f1) true _ A17.out).mono ?_); rintro e w81 ⟨rfl, hb⟩; replace BK394 := am (Kb (bB BK394.out) hb); replace BK396 := am (Kb (bB BK396.out) hb); replace HB := am (Kh (sB HB.out) hb); (try clear hb); obtain ⟨hcz82_0, hcz82_1, hcz82_2, hcz82_3, hcz82_4, hcz82_5, hcz82_6, hfz82_0, hfz82_1, hfz82_2, hfz82_3, hfz82_4, hfz82_5, hfz82_6⟩ := blk7 BK396.out; obtain ⟨hcz83_0, hcz83_1, hcz83_2, hcz83_3, hcz83_4, hcz83_5, hcz83_6, hfz83_0, hfz83_1, hfz83_2, hfz83_3, hfz83_4, hfz83_5, hfz83_6⟩ := blk7 BK394.out))
                 go_roundg k2
                 case measure => have := HK1.out; have := HK2.out; omega
                 case rel => exact ⟨(x7_2), (wrap64 (x18_2 + 1)), (by first | rfl | (simp; done) | (simp [*]; done)), (by first | rfl | (simp; done) | (simp [*]; done)), H', ⟨by have := HK1.out; have := HK2.out; omega⟩, ⟨bB BK394.out⟩, ⟨sB HB.out⟩⟩
               ·replace c18 := bF c18
                subst c18
                replace H := hF H
                have H' := am H
                clear H
                have p395 : 0 ≤ (x18_2 : Int) := Kp (by first | (with_reducible assumption) | assumption)
                have q395 : x18_2 < (l1.length : Int) := Kp (by first | (with_reducible assumption) | assumption)
                obtain ⟨ad395, e395, hx395_0, hx395_1, hx395_2, hx395_3, hx395_4, hx395_5, hx395_6⟩ := at_T35 HR1.out x18_2 p395 q395
                cases e395
                replace hx395_0 := hc_ HB hx395_0
                replace hx395_1 := hc_ HB hx395_1
                replace hx395_2 := hc_ HB hx395_2
                replace hx395_3 := hc_ HB hx395_3
                replace hx395_4 := hc_ HB hx395_4
                replace hx395_5 := hc_ HB hx395_5
                replace hx395_6 := hc_ HB hx395_6
                replace p395 := eq_true p395
                replace q395 := eq_true q395
                go_wp2_with (first | ((with_reducible refine gate_dst (N := 9) rfl ?_); refine bE 9 #[.int .i64 0, .int .i64 0, .int .i64 0, .int .i64 0, .int .i64 0, .int .i64 0, .bool false] 35 ?_; intro gb396 hg w84 hbox hb; have n0_ := am (Kb (bB BK394.out) hb); have q_ := hbx_ (sB HB.out) hg hb; have n1_ := q_.1; have n2_ := am (hbox); have n3_ := q_.2; have n4_ := n3_; have n5_ := nL hg (bB BK394.out); have n6_ := nR hg (bB BK394.out); clear BK394; clear HB; have BK394 := n0_; have HB := n1_; have BK396 := n2_; have GW396 := n3_; have GE396 := n4_; have NB394_396 := n5_; have NB396_394 := n6_; clear n0_ n1_ n2_ n3_ n4_ n5_ n6_; clear hb hbox hg; have hnb85 := NB396_394.out; have hnc85 := NB394_396.out; obtain ⟨hcz86_0, hcz86_1, hcz86_2, hcz86_3, hcz86_4, hcz86_5, hcz86_6, hfz86_0, hfz86_1, hfz86_2, hfz86_3, hfz86_4, hfz86_5, hfz86_6⟩ := blk7 BK396.out; obtain ⟨hcz87_0, hcz87_1, hcz87_2, hcz87_3, hcz87_4, hcz87_5, hcz87_6, hfz87_0, hfz87_1, hfz87_2, hfz87_3, hfz87_4, hfz87_5, hfz87_6⟩ := blk7 BK394.out) | ((with_reducible refine gate_callee (f := 41) rfl ?_); refine gL (some 23) Try.func41 #[.agg #[.int .i64 ((rd_T35 l0 x12_1).f0), .int .i64 ((rd_T35 l0 x12_1).f1.f0), .int .i64 ((rd_T35 l0 x12_1).f1.f1), .int .i64 ((rd_T35 l0 x12_1).f2), .int .i64 ((rd_T35 l0 x12_1).f3), .int .i64 ((rd_T35 l0 x12_1).f4), .bool ((rd_T35 l0 x12_1).f5)]] ?_; (with_reducible refine (impl_IsGrant.calls ((rd_T35 l0 x12_1).f0) ((rd_T35 l0 x12_1).f1.f0) ((rd_T35 l0 x12_1).f1.f1) ((rd_T35 l0 x12_1).f2) ((rd_T35 l0 x12_1).f3) ((rd_T35 l0 x12_1).f4) ((rd_T35 l0 x12_1).f5) true _ A11.out).mono ?_); rintro e w88 ⟨rfl, hb⟩; refine ⟨_, rfl, ?_⟩; replace BK394 := am (Kb (fB NB394_396.out BK394.out) hb); replace BK396 := am (Kb (g := gb396) (o := .cells #[.int .i64 ((rd_T35 l1 x18_2).f0), .int .i64 ((rd_T35 l1 x18_2).f1.f0), .int .i64 ((rd_T35 l1 x18_2).f1.f1), .int .i64 ((rd_T35 l1 x18_2).f2), .int .i64 ((rd_T35 l1 x18_2).f3), .int .i64 ((rd_T35 l1 x18_2).f4), .bool ((rd_T35 l1 x18_2).f5)] 35 (0, 0)) (by refine bB ?_; refine Kg (cs := #[.int .i64 ((rd_T35 l1 x18_2).f0), .int .i64 ((rd_T35 l1 x18_2).f1.f0), .int .i64 ((rd_T35 l1 x18_2).f1.f1), .int .i64 ((rd_T35 l1 x18_2).f2), .int .i64 ((rd_T35 l1 x18_2).f3), .int .i64 ((rd_T35 l1 x18_2).f4), .bool false]) ?_ 6 _ rfl; refine bB ?_; refine Kg (cs := #[.int .i64 ((rd_T35 l1 x18_2).f0), .int .i64 ((rd_T35 l1 x18_2).f1.f0), .int .i64 ((rd_T35 l1 x18_2).f1.f1), .int .i64 ((rd_T35 l1 x18_2).f2), .int .i64 ((rd_T35 l1 x18_2).f3), .int .i64 0, .bool false]) ?_ 5 _ rfl; refine bB ?_; refine Kg (cs := #[.int .i64 ((rd_T35 l1 x18_2).f0), .int .i64 ((rd_T35 l1 x18_2).f1.f0), .int .i64 ((rd_T35 l1 x18_2).f1.f1), .int .i64 ((rd_T35 l1 x18_2).f2), .int .i64 0, .int .i64 0, .bool false]) ?_ 4 _ rfl; refine bB ?_; refine Kg (cs := #[.int .i64 ((rd_T35 l1 x18_2).f0), .int .i64 ((rd_T35 l1 x18_2).f1.f0), .int .i64 ((rd_T35 l1 x18_2).f1.f1), .int .i64 0, .int .i64 0, .int .i64 0, .bool false]) ?_ 3 _ rfl; refine bB ?_; refine Kg (cs := #[.int .i64 ((rd_T35 l1 x18_2).f0), .int .i64 ((rd_T35 l1 x18_2).f1.f0), .int .i64 0, .int .i64 0, .int .i64 0, .int .i64 0, .bool false]) ?_ 2 _ rfl; refine bB ?_; refine Kg (cs := #[.int .i64 ((rd_T35 l1 x18_2).f0), .int .i64 0, .int .i64 0, .int .i64 0, .int .i64 0, .int .i64 0, .bool false]) ?_ 1 _ rfl; refine bB ?_; refine Kg (cs := #[.int .i64 0, .int .i64 0, .int .i64 0, .int .i64 0, .int .i64 0, .int .i64 0, .bool false]) ?_ 0 _ rfl; refine bB ?_; exact BK396.out) hb); replace HB := am (Kh (sB HB.out) hb); (try clear hb); obtain ⟨hcz89_0, hcz89_1, hcz89_2, hcz89_3, hcz89_4, hcz89_5, hcz89_6, hfz89_0, hfz89_1, hfz89_2, hfz89_3, hfz89_4, hfz89_5, hfz89_6⟩ := blk7 BK396.out) | (go_at_call 41; (with_reducible refine (impl_IsGrant.calls ((rd_T35 l1 x18_2).f0) ((rd_T35 l1 x18_2).f1.f0) ((rd_T35 l1 x18_2).f1.f1) ((rd_T35 l1 x18_2).f2) ((rd_T35 l1 x18_2).f3) ((rd_T35 l1 x18_2).f4) ((rd_T35 l1 x18_2).f5) true _ A13.out).mono ?_); rintro e w90 ⟨rfl, hb⟩; replace BK394 := am (Kb (bB BK394.out) hb); replace BK396 := am (Kb (bB BK396.out) hb); replace HB := am (Kh (sB HB.out) hb); (try clear hb); obtain ⟨hcz91_0, hcz91_1, hcz91_2, hcz91_3, hcz91_4, hcz91_5, hcz91_6, hfz91_0, hfz91_1, hfz91_2, hfz91_3, hfz91_4, hfz91_5, hfz91_6⟩ := blk7 BK394.out; obtain ⟨hcz92_0, hcz92_1, hcz92_2, hcz92_3, hcz92_4, hcz92_5, hcz92_6, hfz92_0, hfz92_1, hfz92_2, hfz92_3, hfz92_4, hfz92_5, hfz92_6⟩ := blk7 BK396.out) | (go_at_call 42; (with_reducible refine (impl_IsNarrower.calls ((rd_T35 l0 x12_1).f1.f0) ((rd_T35 l0 x12_1).f1.f1) ((rd_T35 l1 x18_2).f1.f0) ((rd_T35 l1 x18_2).f1.f1) false _ A17.out).mono ?_); rintro e w93 ⟨rfl, hb⟩; replace BK394 := am (Kb (bB BK394.out) hb); replace BK396 := am (Kb (bB BK396.out) hb); replace HB := am (Kh (sB HB.out) hb); (try clear hb)))
                go_roundg k2
                case measure => have := HK1.out; have := HK2.out; omega
                case rel => exact ⟨(x7_2), (wrap64 (x18_2 + 1)), (by first | rfl | (simp; done) | (simp [*]; done)), (by first | rfl | (simp; done) | (simp [*]; done)), H', ⟨by have := HK1.out; have := HK2.out; omega⟩, ⟨bB BK394.out⟩, ⟨sB HB.out⟩⟩
              ·rw [if_neg c16] at H
               have c16b0 : (((rd_T35 l0 x12_1).f2) == ((rd_T35 l1 x18_2).f2)) = false := beq_eq_false_iff_ne.mpr c16
               have c16b1 : (((rd_T35 l0 x12_1).f2) != ((rd_T35 l1 x18_2).f2)) = true := bne_iff_ne.mpr c16
               have H' := am H
               clear H
               have p395 : 0 ≤ (x18_2 : Int) := Kp (by first | (with_reducible assumption) | assumption)
               have q395 : x18_2 < (l1.length : Int) := Kp (by first | (with_reducible assumption) | assumption)
               obtain ⟨ad395, e395, hx395_0, hx395_1, hx395_2, hx395_3, hx395_4, hx395_5, hx395_6⟩ := at_T35 HR1.out x18_2 p395 q395
               cases e395
               replace hx395_0 := hc_ HB hx395_0
               replace hx395_1 := hc_ HB hx395_1
               replace hx395_2 := hc_ HB hx395_2
               replace hx395_3 := hc_ HB hx395_3
               replace hx395_4 := hc_ HB hx395_4
               replace hx395_5 := hc_ HB hx395_5
               replace hx395_6 := hc_ HB hx395_6
               replace p395 := eq_true p395
               replace q395 := eq_true q395
               go_wp2_with (first | ((with_reducible refine gate_dst (N := 9) rfl ?_); refine bE 9 #[.int .i64 0, .int .i64 0, .int .i64 0, .int .i64 0, .int .i64 0, .int .i64 0, .bool false] 35 ?_; intro gb396 hg w94 hbox hb; have n0_ := am (Kb (bB BK394.out) hb); have q_ := hbx_ (sB HB.out) hg hb; have n1_ := q_.1; have n2_ := am (hbox); have n3_ := q_.2; have n4_ := n3_; have n5_ := nL hg (bB BK394.out); have n6_ := nR hg (bB BK394.out); clear BK394; clear HB; have BK394 := n0_; have HB := n1_; have BK396 := n2_; have GW396 := n3_; have GE396 := n4_; have NB394_396 := n5_; have NB396_394 := n6_; clear n0_ n1_ n2_ n3_ n4_ n5_ n6_; clear hb hbox hg; have hnb95 := NB396_394.out; have hnc95 := NB394_396.out; obtain ⟨hcz96_0, hcz96_1, hcz96_2, hcz96_3, hcz96_4, hcz96_5, hcz96_6, hfz96_0, hfz96_1, hfz96_2, hfz96_3, hfz96_4, hfz96_5, hfz96_6⟩ := blk7 BK396.out; obtain ⟨hcz97_0, hcz97_1, hcz97_2, hcz97_3, hcz97_4, hcz97_5, hcz97_6, hfz97_0, hfz97_1, hfz97_2, hfz97_3, hfz97_4, hfz97_5, hfz97_6⟩ := blk7 BK394.out) | ((with_reducible refine gate_callee (f := 41) rfl ?_); refine gL (some 23) Try.func41 #[.agg #[.int .i64 ((rd_T35 l0 x12_1).f0), .int .i64 ((rd_T35 l0 x12_1).f1.f0), .int .i64 ((rd_T35 l0 x12_1).f1.f1), .int .i64 ((rd_T35 l0 x12_1).f2), .int .i64 ((rd_T35 l0 x12_1).f3), .int .i64 ((rd_T35 l0 x12_1).f4), .bool ((rd_T35 l0 x12_1).f5)]] ?_; (with_reducible refine (impl_IsGrant.calls ((rd_T35 l0 x12_1).f0) ((rd_T35 l0 x12_1).f1.f0) ((rd_T35 l0 x12_1).f1.f1) ((rd_T35 l0 x12_1).f2) ((rd_T35 l0 x12_1).f3) ((rd_T35 l0 x12_1).f4) ((rd_T35 l0 x12_1).f5) true _ A11.out).mono ?_); rintro e w98 ⟨rfl, hb⟩; refine ⟨_, rfl, ?_⟩; replace BK394 := am (Kb (fB NB394_396.out BK394.out) hb); replace BK396 := am (Kb (g := gb396) (o := .cells #[.int .i64 ((rd_T35 l1 x18_2).f0), .int .i64 ((rd_T35 l1 x18_2).f1.f0), .int .i64 ((rd_T35 l1 x18_2).f1.f1), .int .i64 ((rd_T35 l1 x18_2).f2), .int .i64 ((rd_T35 l1 x18_2).f3), .int .i64 ((rd_T35 l1 x18_2).f4), .bool ((rd_T35 l1 x18_2).f5)] 35 (0, 0)) (by refine bB ?_; refine Kg (cs := #[.int .i64 ((rd_T35 l1 x18_2).f0), .int .i64 ((rd_T35 l1 x18_2).f1.f0), .int .i64 ((rd_T35 l1 x18_2).f1.f1), .int .i64 ((rd_T35 l1 x18_2).f2), .int .i64 ((rd_T35 l1 x18_2).f3), .int .i64 ((rd_T35 l1 x18_2).f4), .bool false]) ?_ 6 _ rfl; refine bB ?_; refine Kg (cs := #[.int .i64 ((rd_T35 l1 x18_2).f0), .int .i64 ((rd_T35 l1 x18_2).f1.f0), .int .i64 ((rd_T35 l1 x18_2).f1.f1), .int .i64 ((rd_T35 l1 x18_2).f2), .int .i64 ((rd_T35 l1 x18_2).f3), .int .i64 0, .bool false]) ?_ 5 _ rfl; refine bB ?_; refine Kg (cs := #[.int .i64 ((rd_T35 l1 x18_2).f0), .int .i64 ((rd_T35 l1 x18_2).f1.f0), .int .i64 ((rd_T35 l1 x18_2).f1.f1), .int .i64 ((rd_T35 l1 x18_2).f2), .int .i64 0, .int .i64 0, .bool false]) ?_ 4 _ rfl; refine bB ?_; refine Kg (cs := #[.int .i64 ((rd_T35 l1 x18_2).f0), .int .i64 ((rd_T35 l1 x18_2).f1.f0), .int .i64 ((rd_T35 l1 x18_2).f1.f1), .int .i64 0, .int .i64 0, .int .i64 0, .bool false]) ?_ 3 _ rfl; refine bB ?_; refine Kg (cs := #[.int .i64 ((rd_T35 l1 x18_2).f0), .int .i64 ((rd_T35 l1 x18_2).f1.f0), .int .i64 0, .int .i64 0, .int .i64 0, .int .i64 0, .bool false]) ?_ 2 _ rfl; refine bB ?_; refine Kg (cs := #[.int .i64 ((rd_T35 l1 x18_2).f0), .int .i64 0, .int .i64 0, .int .i64 0, .int .i64 0, .int .i64 0, .bool false]) ?_ 1 _ rfl; refine bB ?_; refine Kg (cs := #[.int .i64 0, .int .i64 0, .int .i64 0, .int .i64 0, .int .i64 0, .int .i64 0, .bool false]) ?_ 0 _ rfl; refine bB ?_; exact BK396.out) hb); replace HB := am (Kh (sB HB.out) hb); (try clear hb); obtain ⟨hcz99_0, hcz99_1, hcz99_2, hcz99_3, hcz99_4, hcz99_5, hcz99_6, hfz99_0, hfz99_1, hfz99_2, hfz99_3, hfz99_4, hfz99_5, hfz99_6⟩ := blk7 BK396.out) | (go_at_call 41; (with_reducible refine (impl_IsGrant.calls ((rd_T35 l1 x18_2).f0) ((rd_T35 l1 x18_2).f1.f0) ((rd_T35 l1 x18_2).f1.f1) ((rd_T35 l1 x18_2).f2) ((rd_T35 l1 x18_2).f3) ((rd_T35 l1 x18_2).f4) ((rd_T35 l1 x18_2).f5) true _ A13.out).mono ?_); rintro e w100 ⟨rfl, hb⟩; replace BK394 := am (Kb (bB BK394.out) hb); replace BK396 := am (Kb (bB BK396.out) hb); replace HB := am (Kh (sB HB.out) hb); (try clear hb); obtain ⟨hcz101_0, hcz101_1, hcz101_2, hcz101_3, hcz101_4, hcz101_5, hcz101_6, hfz101_0, hfz101_1, hfz101_2, hfz101_3, hfz101_4, hfz101_5, hfz101_6⟩ := blk7 BK394.out; obtain ⟨hcz102_0, hcz102_1, hcz102_2, hcz102_3, hcz102_4, hcz102_5, hcz102_6, hfz102_0, hfz102_1, hfz102_2, hfz102_3, hfz102_4, hfz102_5, hfz102_6⟩ := blk7 BK396.out))
               go_roundg k2
               case measure => have := HK1.out; have := HK2.out; omega
               case rel => exact ⟨(x7_2), (wrap64 (x18_2 + 1)), (by first | rfl | (simp; done) | (simp [*]; done)), (by first | rfl | (simp; done) | (simp [*]; done)), H', ⟨by have := HK1.out; have := HK2.out; omega⟩, ⟨bB BK394.out⟩, ⟨sB HB.out⟩⟩
             ·rw [if_neg c15] at H
              have c15b0 : (((rd_T35 l0 x12_1).f0) == ((rd_T35 l1 x18_2).f0)) = false := beq_eq_false_iff_ne.mpr c15
              have c15b1 : (((rd_T35 l0 x12_1).f0) != ((rd_T35 l1 x18_2).f0)) = true := bne_iff_ne.mpr c15
              have H' := am H
              clear H
              have p395 : 0 ≤ (x18_2 : Int) := Kp (by first | (with_reducible assumption) | assumption)
              have q395 : x18_2 < (l1.length : Int) := Kp (by first | (with_reducible assumption) | assumption)
              obtain ⟨ad395, e395, hx395_0, hx395_1, hx395_2, hx395_3, hx395_4, hx395_5, hx395_6⟩ := at_T35 HR1.out x18_2 p395 q395
              cases e395
              replace hx395_0 := hc_ HB hx395_0
              replace hx395_1 := hc_ HB hx395_1
              replace hx395_2 := hc_ HB hx395_2
              replace hx395_3 := hc_ HB hx395_3
              replace hx395_4 := hc_ HB hx395_4
              replace hx395_5 := hc_ HB hx395_5
              replace hx395_6 := hc_ HB hx395_6
              replace p395 := eq_true p395
              replace q395 := eq_true q395
              go_wp2_with (first | ((with_reducible refine gate_dst (N := 9) rfl ?_); refine bE 9 #[.int .i64 0, .int .i64 0, .int .i64 0, .int .i64 0, .int .i64 0, .int .i64 0, .bool false] 35 ?_; intro gb396 hg w103 hbox hb; have n0_ := am (Kb (bB BK394.out) hb); have q_ := hbx_ (sB HB.out) hg hb; have n1_ := q_.1; have n2_ := am (hbox); have n3_ := q_.2; have n4_ := n3_; have n5_ := nL hg (bB BK394.out); have n6_ := nR hg (bB BK394.out); clear BK394; clear HB; have BK394 := n0_; have HB := n1_; have BK396 := n2_; have GW396 := n3_; have GE396 := n4_; have NB394_396 := n5_; have NB396_394 := n6_; clear n0_ n1_ n2_ n3_ n4_ n5_ n6_; clear hb hbox hg; have hnb104 := NB396_394.out; have hnc104 := NB394_396.out; obtain ⟨hcz105_0, hcz105_1, hcz105_2, hcz105_3, hcz105_4, hcz105_5, hcz105_6, hfz105_0, hfz105_1, hfz105_2, hfz105_3, hfz105_4, hfz105_5, hfz105_6⟩ := blk7 BK396.out; obtain ⟨hcz106_0, hcz106_1, hcz106_2, hcz106_3, hcz106_4, hcz106_5, hcz106_6, hfz106_0, hfz106_1, hfz106_2, hfz106_3, hfz106_4, hfz106_5, hfz106_6⟩ := blk7 BK394.out) | ((with_reducible refine gate_callee (f := 41) rfl ?_); refine gL (some 23) Try.func41 #[.agg #[.int .i64 ((rd_T35 l0 x12_1).f0), .int .i64 ((rd_T35 l0 x12_1).f1.f0), .int .i64 ((rd_T35 l0 x12_1).f1.f1), .int .i64 ((rd_T35 l0 x12_1).f2), .int .i64 ((rd_T35 l0 x12_1).f3), .int .i64 ((rd_T35 l0 x12_1).f4), .bool ((rd_T35 l0 x12_1).f5)]] ?_; (with_reducible refine (impl_IsGrant.calls ((rd_T35 l0 x12_1).f0) ((rd_T35 l0 x12_1).f1.f0) ((rd_T35 l0 x12_1).f1.f1) ((rd_T35 l0 x12_1).f2) ((rd_T35 l0 x12_1).f3) ((rd_T35 l0 x12_1).f4) ((rd_T35 l0 x12_1).f5) true _ A11.out).mono ?_); rintro e w107 ⟨rfl, hb⟩; refine ⟨_, rfl, ?_⟩; replace BK394 := am (Kb (fB NB394_396.out BK394.out) hb); replace BK396 := am (Kb (g := gb396) (o := .cells #[.int .i64 ((rd_T35 l1 x18_2).f0), .int .i64 ((rd_T35 l1 x18_2).f1.f0), .int .i64 ((rd_T35 l1 x18_2).f1.f1), .int .i64 ((rd_T35 l1 x18_2).f2), .int .i64 ((rd_T35 l1 x18_2).f3), .int .i64 ((rd_T35 l1 x18_2).f4), .bool ((rd_T35 l1 x18_2).f5)] 35 (0, 0)) (by refine bB ?_; refine Kg (cs := #[.int .i64 ((rd_T35 l1 x18_2).f0), .int .i64 ((rd_T35 l1 x18_2).f1.f0), .int .i64 ((rd_T35 l1 x18_2).f1.f1), .int .i64 ((rd_T35 l1 x18_2).f2), .int .i64 ((rd_T35 l1 x18_2).f3), .int .i64 ((rd_T35 l1 x18_2).f4), .bool false]) ?_ 6 _ rfl; refine bB ?_; refine Kg (cs := #[.int .i64 ((rd_T35 l1 x18_2).f0), .int .i64 ((rd_T35 l1 x18_2).f1.f0), .int .i64 ((rd_T35 l1 x18_2).f1.f1), .int .i64 ((rd_T35 l1 x18_2).f2), .int .i64 ((rd_T35 l1 x18_2).f3), .int .i64 0, .bool false]) ?_ 5 _ rfl; refine bB ?_; refine Kg (cs := #[.int .i64 ((rd_T35 l1 x18_2).f0), .int .i64 ((rd_T35 l1 x18_2).f1.f0), .int .i64 ((rd_T35 l1 x18_2).f1.f1), .int .i64 ((rd_T35 l1 x18_2).f2), .int .i64 0, .int .i64 0, .bool false]) ?_ 4 _ rfl; refine bB ?_; refine Kg (cs := #[.int .i64 ((rd_T35 l1 x18_2).f0), .int .i64 ((rd_T35 l1 x18_2).f1.f0), .int .i64 ((rd_T35 l1 x18_2).f1.f1), .int .i64 0, .int .i64 0, .int .i64 0, .bool false]) ?_ 3 _ rfl; refine bB ?_; refine Kg (cs := #[.int .i64 ((rd_T35 l1 x18_2).f0), .int .i64 ((rd_T35 l1 x18_2).f1.f0), .int .i64 0, .int .i64 0, .int .i64 0, .int .i64 0, .bool false]) ?_ 2 _ rfl; refine bB ?_; refine Kg (cs := #[.int .i64 ((rd_T35 l1 x18_2).f0), .int .i64 0, .int .i64 0, .int .i64 0, .int .i64 0, .int .i64 0, .bool false]) ?_ 1 _ rfl; refine bB ?_; refine Kg (cs := #[.int .i64 0, .int .i64 0, .int .i64 0, .int .i64 0, .int .i64 0, .int .i64 0, .bool false]) ?_ 0 _ rfl; refine bB ?_; exact BK396.out) hb); replace HB := am (Kh (sB HB.out) hb); (try clear hb); obtain ⟨hcz108_0, hcz108_1, hcz108_2, hcz108_3, hcz108_4, hcz108_5, hcz108_6, hfz108_0, hfz108_1, hfz108_2, hfz108_3, hfz108_4, hfz108_5, hfz108_6⟩ := blk7 BK396.out) | (go_at_call 41; (with_reducible refine (impl_IsGrant.calls ((rd_T35 l1 x18_2).f0) ((rd_T35 l1 x18_2).f1.f0) ((rd_T35 l1 x18_2).f1.f1) ((rd_T35 l1 x18_2).f2) ((rd_T35 l1 x18_2).f3) ((rd_T35 l1 x18_2).f4) ((rd_T35 l1 x18_2).f5) true _ A13.out).mono ?_); rintro e w109 ⟨rfl, hb⟩; replace BK394 := am (Kb (bB BK394.out) hb); replace BK396 := am (Kb (bB BK396.out) hb); replace HB := am (Kh (sB HB.out) hb); (try clear hb); obtain ⟨hcz110_0, hcz110_1, hcz110_2, hcz110_3, hcz110_4, hcz110_5, hcz110_6, hfz110_0, hfz110_1, hfz110_2, hfz110_3, hfz110_4, hfz110_5, hfz110_6⟩ := blk7 BK394.out; obtain ⟨hcz111_0, hcz111_1, hcz111_2, hcz111_3, hcz111_4, hcz111_5, hcz111_6, hfz111_0, hfz111_1, hfz111_2, hfz111_3, hfz111_4, hfz111_5, hfz111_6⟩ := blk7 BK396.out))
              go_roundg k2
              case measure => have := HK1.out; have := HK2.out; omega
              case rel => exact ⟨(x7_2), (wrap64 (x18_2 + 1)), (by first | rfl | (simp; done) | (simp [*]; done)), (by first | rfl | (simp; done) | (simp [*]; done)), H', ⟨by have := HK1.out; have := HK2.out; omega⟩, ⟨bB BK394.out⟩, ⟨sB HB.out⟩⟩
            ·replace c14 := bF c14
             subst c14
             replace H := hF H
             have H' := am H
             clear H
             have p395 : 0 ≤ (x18_2 : Int) := Kp (by first | (with_reducible assumption) | assumption)
             have q395 : x18_2 < (l1.length : Int) := Kp (by first | (with_reducible assumption) | assumption)
             obtain ⟨ad395, e395, hx395_0, hx395_1, hx395_2, hx395_3, hx395_4, hx395_5, hx395_6⟩ := at_T35 HR1.out x18_2 p395 q395
             cases e395
             replace hx395_0 := hc_ HB hx395_0
             replace hx395_1 := hc_ HB hx395_1
             replace hx395_2 := hc_ HB hx395_2
             replace hx395_3 := hc_ HB hx395_3
             replace hx395_4 := hc_ HB hx395_4
             replace hx395_5 := hc_ HB hx395_5
             replace hx395_6 := hc_ HB hx395_6
             replace p395 := eq_true p395
             replace q395 := eq_true q395
             go_wp2_with (first | ((with_reducible refine gate_dst (N := 9) rfl ?_); refine bE 9 #[.int .i64 0, .int .i64 0, .int .i64 0, .int .i64 0, .int .i64 0, .int .i64 0, .bool false] 35 ?_; intro gb396 hg w112 hbox hb; have n0_ := am (Kb (bB BK394.out) hb); have q_ := hbx_ (sB HB.out) hg hb; have n1_ := q_.1; have n2_ := am (hbox); have n3_ := q_.2; have n4_ := n3_; have n5_ := nL hg (bB BK394.out); have n6_ := nR hg (bB BK394.out); clear BK394; clear HB; have BK394 := n0_; have HB := n1_; have BK396 := n2_; have GW396 := n3_; have GE396 := n4_; have NB394_396 := n5_; have NB396_394 := n6_; clear n0_ n1_ n2_ n3_ n4_ n5_ n6_; clear hb hbox hg; have hnb113 := NB396_394.out; have hnc113 := NB394_396.out; obtain ⟨hcz114_0, hcz114_1, hcz114_2, hcz114_3, hcz114_4, hcz114_5, hcz114_6, hfz114_0, hfz114_1, hfz114_2, hfz114_3, hfz114_4, hfz114_5, hfz114_6⟩ := blk7 BK396.out; obtain ⟨hcz115_0, hcz115_1, hcz115_2, hcz115_3, hcz115_4, hcz115_5, hcz115_6, hfz115_0, hfz115_1, hfz115_2, hfz115_3, hfz115_4, hfz115_5, hfz115_6⟩ := blk7 BK394.out) | ((with_reducible refine gate_callee (f := 41) rfl ?_); refine gL (some 23) Try.func41 #[.agg #[.int .i64 ((rd_T35 l0 x12_1).f0), .int .i64 ((rd_T35 l0 x12_1).f1.f0), .int .i64 ((rd_T35 l0 x12_1).f1.f1), .int .i64 ((rd_T35 l0 x12_1).f2), .int .i64 ((rd_T35 l0 x12_1).f3), .int .i64 ((rd_T35 l0 x12_1).f4), .bool ((rd_T35 l0 x12_1).f5)]] ?_; (with_reducible refine (impl_IsGrant.calls ((rd_T35 l0 x12_1).f0) ((rd_T35 l0 x12_1).f1.f0) ((rd_T35 l0 x12_1).f1.f1) ((rd_T35 l0 x12_1).f2) ((rd_T35 l0 x12_1).f3) ((rd_T35 l0 x12_1).f4) ((rd_T35 l0 x12_1).f5) true _ A11.out).mono ?_); rintro e w116 ⟨rfl, hb⟩; refine ⟨_, rfl, ?_⟩; replace BK394 := am (Kb (fB NB394_396.out BK394.out) hb); replace BK396 := am (Kb (g := gb396) (o := .cells #[.int .i64 ((rd_T35 l1 x18_2).f0), .int .i64 ((rd_T35 l1 x18_2).f1.f0), .int .i64 ((rd_T35 l1 x18_2).f1.f1), .int .i64 ((rd_T35 l1 x18_2).f2), .int .i64 ((rd_T35 l1 x18_2).f3), .int .i64 ((rd_T35 l1 x18_2).f4), .bool ((rd_T35 l1 x18_2).f5)] 35 (0, 0)) (by refine bB ?_; refine Kg (cs := #[.int .i64 ((rd_T35 l1 x18_2).f0), .int .i64 ((rd_T35 l1 x18_2).f1.f0), .int .i64 ((rd_T35 l1 x18_2).f1.f1), .int .i64 ((rd_T35 l1 x18_2).f2), .int .i64 ((rd_T35 l1 x18_2).f3), .int .i64 ((rd_T35 l1 x18_2).f4), .bool false]) ?_ 6 _ rfl; refine bB ?_; refine Kg (cs := #[.int .i64 ((rd_T35 l1 x18_2).f0), .int .i64 ((rd_T35 l1 x18_2).f1.f0), .int .i64 ((rd_T35 l1 x18_2).f1.f1), .int .i64 ((rd_T35 l1 x18_2).f2), .int .i64 ((rd_T35 l1 x18_2).f3), .int .i64 0, .bool false]) ?_ 5 _ rfl; refine bB ?_; refine Kg (cs := #[.int .i64 ((rd_T35 l1 x18_2).f0), .int .i64 ((rd_T35 l1 x18_2).f1.f0), .int .i64 ((rd_T35 l1 x18_2).f1.f1), .int .i64 ((rd_T35 l1 x18_2).f2), .int .i64 0, .int .i64 0, .bool false]) ?_ 4 _ rfl; refine bB ?_; refine Kg (cs := #[.int .i64 ((rd_T35 l1 x18_2).f0), .int .i64 ((rd_T35 l1 x18_2).f1.f0), .int .i64 ((rd_T35 l1 x18_2).f1.f1), .int .i64 0, .int .i64 0, .int .i64 0, .bool false]) ?_ 3 _ rfl; refine bB ?_; refine Kg (cs := #[.int .i64 ((rd_T35 l1 x18_2).f0), .int .i64 ((rd_T35 l1 x18_2).f1.f0), .int .i64 0, .int .i64 0, .int .i64 0, .int .i64 0, .bool false]) ?_ 2 _ rfl; refine bB ?_; refine Kg (cs := #[.int .i64 ((rd_T35 l1 x18_2).f0), .int .i64 0, .int .i64 0, .int .i64 0, .int .i64 0, .int .i64 0, .bool false]) ?_ 1 _ rfl; refine bB ?_; refine Kg (cs := #[.int .i64 0, .int .i64 0, .int .i64 0, .int .i64 0, .int .i64 0, .int .i64 0, .bool false]) ?_ 0 _ rfl; refine bB ?_; exact BK396.out) hb); replace HB := am (Kh (sB HB.out) hb); (try clear hb); obtain ⟨hcz117_0, hcz117_1, hcz117_2, hcz117_3, hcz117_4, hcz117_5, hcz117_6, hfz117_0, hfz117_1, hfz117_2, hfz117_3, hfz117_4, hfz117_5, hfz117_6⟩ := blk7 BK396.out) | (go_at_call 41; (with_reducible refine (impl_IsGrant.calls ((rd_T35 l1 x18_2).f0) ((rd_T35 l1 x18_2).f1.f0) ((rd_T35 l1 x18_2).f1.f1) ((rd_T35 l1 x18_2).f2) ((rd_T35 l1 x18_2).f3) ((rd_T35 l1 x18_2).f4) ((rd_T35 l1 x18_2).f5) false _ A13.out).mono ?_); rintro e w118 ⟨rfl, hb⟩; replace BK394 := am (Kb (bB BK394.out) hb); replace BK396 := am (Kb (bB BK396.out) hb); replace HB := am (Kh (sB HB.out) hb); (try clear hb)))
             go_roundg k2
             case measure => have := HK1.out; have := HK2.out; omega
             case rel => exact ⟨(x7_2), (wrap64 (x18_2 + 1)), (by first | rfl | (simp; done) | (simp [*]; done)), (by first | rfl | (simp; done) | (simp [*]; done)), H', ⟨by have := HK1.out; have := HK2.out; omega⟩, ⟨bB BK394.out⟩, ⟨sB HB.out⟩⟩
           ·replace c12 := bF c12
            subst c12
            replace H := hF H
            have H' := am H
            clear H
            have p395 : 0 ≤ (x18_2 : Int) := Kp (by first | (with_reducible assumption) | assumption)
            have q395 : x18_2 < (l1.length : Int) := Kp (by first | (with_reducible assumption) | assumption)
            obtain ⟨ad395, e395, hx395_0, hx395_1, hx395_2, hx395_3, hx395_4, hx395_5, hx395_6⟩ := at_T35 HR1.out x18_2 p395 q395
            cases e395
            replace hx395_0 := hc_ HB hx395_0
            replace hx395_1 := hc_ HB hx395_1
            replace hx395_2 := hc_ HB hx395_2
            replace hx395_3 := hc_ HB hx395_3
            replace hx395_4 := hc_ HB hx395_4
            replace hx395_5 := hc_ HB hx395_5
            replace hx395_6 := hc_ HB hx395_6
            replace p395 := eq_true p395
            replace q395 := eq_true q395
            go_wp2_with (first | ((with_reducible refine gate_dst (N := 9) rfl ?_); refine bE 9 #[.int .i64 0, .int .i64 0, .int .i64 0, .int .i64 0, .int .i64 0, .int .i64 0, .bool false] 35 ?_; intro gb396 hg w119 hbox hb; have n0_ := am (Kb (bB BK394.out) hb); have q_ := hbx_ (sB HB.out) hg hb; have n1_ := q_.1; have n2_ := am (hbox); have n3_ := q_.2; have n4_ := n3_; have n5_ := nL hg (bB BK394.out); have n6_ := nR hg (bB BK394.out); clear BK394; clear HB; have BK394 := n0_; have HB := n1_; have BK396 := n2_; have GW396 := n3_; have GE396 := n4_; have NB394_396 := n5_; have NB396_394 := n6_; clear n0_ n1_ n2_ n3_ n4_ n5_ n6_; clear hb hbox hg; have hnb120 := NB396_394.out; have hnc120 := NB394_396.out; obtain ⟨hcz121_0, hcz121_1, hcz121_2, hcz121_3, hcz121_4, hcz121_5, hcz121_6, hfz121_0, hfz121_1, hfz121_2, hfz121_3, hfz121_4, hfz121_5, hfz121_6⟩ := blk7 BK396.out; obtain ⟨hcz122_0, hcz122_1, hcz122_2, hcz122_3, hcz122_4, hcz122_5, hcz122_6, hfz122_0, hfz122_1, hfz122_2, hfz122_3, hfz122_4, hfz122_5, hfz122_6⟩ := blk7 BK394.out) | ((with_reducible refine gate_callee (f := 41) rfl ?_); refine gL (some 23) Try.func41 #[.agg #[.int .i64 ((rd_T35 l0 x12_1).f0), .int .i64 ((rd_T35 l0 x12_1).f1.f0), .int .i64 ((rd_T35 l0 x12_1).f1.f1), .int .i64 ((rd_T35 l0 x12_1).f2), .int .i64 ((rd_T35 l0 x12_1).f3), .int .i64 ((rd_T35 l0 x12_1).f4), .bool ((rd_T35 l0 x12_1).f5)]] ?_; (with_reducible refine (impl_IsGrant.calls ((rd_T35 l0 x12_1).f0) ((rd_T35 l0 x12_1).f1.f0) ((rd_T35 l0 x12_1).f1.f1) ((rd_T35 l0 x12_1).f2) ((rd_T35 l0 x12_1).f3) ((rd_T35 l0 x12_1).f4) ((rd_T35 l0 x12_1).f5) false _ A11.out).mono ?_); rintro e w123 ⟨rfl, hb⟩; refine ⟨_, rfl, ?_⟩; replace BK394 := am (Kb (fB NB394_396.out BK394.out) hb); replace BK396 := am (Kb (g := gb396) (o := .cells #[.int .i64 ((rd_T35 l1 x18_2).f0), .int .i64 ((rd_T35 l1 x18_2).f1.f0), .int .i64 ((rd_T35 l1 x18_2).f1.f1), .int .i64 ((rd_T35 l1 x18_2).f2), .int .i64 ((rd_T35 l1 x18_2).f3), .int .i64 ((rd_T35 l1 x18_2).f4), .bool ((rd_T35 l1 x18_2).f5)] 35 (0, 0)) (by refine bB ?_; refine Kg (cs := #[.int .i64 ((rd_T35 l1 x18_2).f0), .int .i64 ((rd_T35 l1 x18_2).f1.f0), .int .i64 ((rd_T35 l1 x18_2).f1.f1), .int .i64 ((rd_T35 l1 x18_2).f2), .int .i64 ((rd_T35 l1 x18_2).f3), .int .i64 ((rd_T35 l1 x18_2).f4), .bool false]) ?_ 6 _ rfl; refine bB ?_; refine Kg (cs := #[.int .i64 ((rd_T35 l1 x18_2).f0), .int .i64 ((rd_T35 l1 x18_2).f1.f0), .int .i64 ((rd_T35 l1 x18_2).f1.f1), .int .i64 ((rd_T35 l1 x18_2).f2), .int .i64 ((rd_T35 l1 x18_2).f3), .int .i64 0, .bool false]) ?_ 5 _ rfl; refine bB ?_; refine Kg (cs := #[.int .i64 ((rd_T35 l1 x18_2).f0), .int .i64 ((rd_T35 l1 x18_2).f1.f0), .int .i64 ((rd_T35 l1 x18_2).f1.f1), .int .i64 ((rd_T35 l1 x18_2).f2), .int .i64 0, .int .i64 0, .bool false]) ?_ 4 _ rfl; refine bB ?_; refine Kg (cs := #[.int .i64 ((rd_T35 l1 x18_2).f0), .int .i64 ((rd_T35 l1 x18_2).f1.f0), .int .i64 ((rd_T35 l1 x18_2).f1.f1), .int .i64 0, .int .i64 0, .int .i64 0, .bool false]) ?_ 3 _ rfl; refine bB ?_; refine Kg (cs := #[.int .i64 ((rd_T35 l1 x18_2).f0), .int .i64 ((rd_T35 l1 x18_2).f1.f0), .int .i64 0, .int .i64 0, .int .i64 0, .int .i64 0, .bool false]) ?_ 2 _ rfl; refine bB ?_; refine Kg (cs := #[.int .i64 ((rd_T35 l1 x18_2).f0), .int .i64 0, .int .i64 0, .int .i64 0, .int .i64 0, .int .i64 0, .bool false]) ?_ 1 _ rfl; refine bB ?_; refine Kg (cs := #[.int .i64 0, .int .i64 0, .int .i64 0, .int .i64 0, .int .i64 0, .int .i64 0, .bool false]) ?_ 0 _ rfl; refine bB ?_; exact BK396.out) hb); replace HB := am (Kh (sB HB.out) hb); (try clear hb)))
            go_roundg k2
            case measure => have := HK1.out; have := HK2.out; omega
            case rel => exact ⟨(x7_2), (wrap64 (x18_2 + 1)), (by first | rfl | (simp; done) | (simp [*]; done)), (by first | rfl | (simp; done) | (simp [*]; done)), H', ⟨by have := HK1.out; have := HK2.out; omega⟩, ⟨bB BK394.out⟩, ⟨sB HB.out⟩⟩
          ·rw [if_neg c10] at H
           exact absurd H (by simp)
         ·rw [if_neg c9] at H
          exact absurd H (by simp)
        ·rw [if_neg c8] at H
         have c8b0 : decide (x18_2 < (l1.length : Int)) = false := decide_eq_false c8
         clear c8
         by_cases c124 : x7_2 = true
         ·subst c124
          replace H := hT H
          have H' := am H
          clear H
          go_wp2
          go_roundg k2
          case measure => have := HK1.out; have := HK2.out; omega
          case rel => exact ⟨(wrap64 (x12_1 + 1)), (by first | rfl | (simp; done) | (simp [*]; done)), H', ⟨by have := HK1.out; have := HK2.out; omega⟩, ⟨sB HB.out⟩⟩
         ·replace c124 := bF c124
          subst c124
          replace H := hF H
          obtain rfl := Option.some.inj H
          go_wp2
          go_ret
          exact lf (sB HB.out)
     ·rw [if_neg c5] at H
      exact absurd H (by simp)
    ·rw [if_neg c4] at H
     exact absurd H (by simp)
   ·rw [if_neg c3] at H
    have c3b0 : decide (x12_1 < (l0.length : Int)) = false := decide_eq_false c3
    clear c3
    obtain rfl := Option.some.inj H
    go_wp2
    go_ret
    exact lf (sB HB.out)

end Go.Proofs.Ytilneejgliglhaa.QN
