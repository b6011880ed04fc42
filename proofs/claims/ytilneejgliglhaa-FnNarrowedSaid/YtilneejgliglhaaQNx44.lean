/- Go functions as Lean functions, each with its walk; printed by a program of this session (a scratch copy of print.py that follows nested field addresses and tells a law for the answer true). -/
import Derived.Test.YtilneejgliglhaaQNx0
import Derived.Test.YtilneejgliglhaaQNx33
import Derived.Test.YtilneejgliglhaaQNx43
import Derived.Test.YtilneejgliglhaaQNxM0
namespace Go.Proofs.Ytilneejgliglhaa.QN
open Go.RowKit Go.Proofs.YtilneejgliglhaaW.PrintWords Go.Proofs.YtilneejgliglhaaW.PrintLast Go.Proofs.YtilneejgliglhaaW.PrintMore Go.Proofs.Ytilneejgliglhaa.Short
attribute [local go_sem] max2_int min2_int max_two min_two max_three min_three max_four min_four   -- for this text's walks alone
set_option linter.unusedVariables false
set_option linter.unusedSimpArgs false

/-! ### spec_DrawIsWithinGrants: function 18 -/
def spec_DrawIsWithinGrants.l0 : Nat → List (S35) → List (S35) → Int → List Int → Int → Int → Option ((List (S35)) × (List (S35)))
 | 0, _, _, _, _, _, _ => none
 | k + 1, x5, x6, x7, x453000, x453001, x453002 => if x7 < (x5.length : Int) then (if 0 ≤ x7 then ((spec_l9Pattern.f x453000 x453001 x453002).bind fun bt462 => ((spec_NarrowGrant.f k ((rd_T35 x5 x7).f0) ((rd_T35 x5 x7).f1.f0) ((rd_T35 x5 x7).f1.f1) ((rd_T35 x5 x7).f2) ((rd_T35 x5 x7).f3) ((rd_T35 x5 x7).f4) ((rd_T35 x5 x7).f5) bt462.1 bt462.2.1).bind fun bt466 => (if bt466.2.2.2.2.2.2.2 = true then ((spec_l1Once.f x453000 bt462.2.2.1 bt462.2.2.2 2).bind fun bt475 => (if bt475.1 = true then (if x6.length < 2513169434916 then (spec_DrawIsWithinGrants.l0 k x5 (x6 ++ [(⟨bt466.1, (⟨bt466.2.1, bt466.2.2.1⟩ : S33), bt466.2.2.2.1, bt466.2.2.2.2.1, bt466.2.2.2.2.2.1, bt466.2.2.2.2.2.2.1⟩ : S35)]) (wrap64 (x7 + 1)) x453000 bt475.2.1 bt475.2.2) else (none)) else (spec_DrawIsWithinGrants.l0 k x5 x6 (wrap64 (x7 + 1)) x453000 bt475.2.1 bt475.2.2))) else (spec_DrawIsWithinGrants.l0 k x5 x6 (wrap64 (x7 + 1)) x453000 bt462.2.2.1 bt462.2.2.2)))) else (none)) else ((spec_l1Once.f x453000 x453001 x453002 4).bind fun bt481 => (if bt481.1 = true then ((spec_l10Any.f x453000 bt481.2.1 bt481.2.2).bind fun bt484 => (if x6.length < 2513169434916 then (some ((x6 ++ [(⟨bt484.1, (⟨bt484.2.1, bt484.2.2.1⟩ : S33), bt484.2.2.2.1, bt484.2.2.2.2.1, bt484.2.2.2.2.2.1, bt484.2.2.2.2.2.2.1⟩ : S35)]), x5)) else (none))) else (some (x6, x5))))
def spec_DrawIsWithinGrants.f (k : Nat) (l0 : List Int) : Option ((List (S35)) × (List (S35))) := (spec_l1New.f k l0).bind fun bt449 => ((spec_l10List.f k bt449.1 bt449.2.1 bt449.2.2).bind fun bt453 => (spec_DrawIsWithinGrants.l0 k bt453.1 (([] : List (S35))) 0 bt449.1 bt453.2.1 bt453.2.2))
def spec_DrawIsWithinGrants.T7 : Bool × List (List Nat × List Nat) := (true, [([], []), ([], []), ([0, 1], [0, 1]), ([2], [2]), ([], []), ([4], [4]), ([3, 5, 5], [3, 5]), ([6], [6]), ([7], [7]), ([7], [7]), ([], []), ([10, 8, 6, 0, 1, 2, 3, 4, 5, 6, 7, 8, 10], [8, 10]), ([9, 11, 0, 1, 2, 3, 4, 5, 6, 7, 8, 9, 10, 11], [9])])
def spec_DrawIsWithinGrants.B7 : List Nat := [0, 0, 3, 7, 0, 16, 63, 127, 255, 255, 0, 1535, 4095]
theorem spec_DrawIsWithinGrants.tab7 : rtab .any (opsOf Try.f18 7) = spec_DrawIsWithinGrants.T7 := by kernel_rfl
theorem spec_DrawIsWithinGrants.bits7 : waitsOk spec_DrawIsWithinGrants.T7.2 spec_DrawIsWithinGrants.B7 = true := by kernel_rfl
set_option maxHeartbeats 8000000 in
set_option maxRecDepth 100000 in
theorem spec_DrawIsWithinGrants.calls (k : Nat) (A0 : Option Addr) (c0 : Nat) (l0 : List Int) (r1 : List (S35)) (r2 : List (S35)) (w : World) (hr0 : Kd.C (Kd.int .u8) w A0 l0.length l0) (hc0 : l0.length ≤ c0) (h : spec_DrawIsWithinGrants.f k l0 = some (r1, r2)) :
  Calls Try.prog 18 #[.slice A0 l0.length c0] w fun e w' => ∃ v0_ v1_ : Value, e = .returned (.tuple #[v0_, v1_]) ∧ Kd.R k35 35 w' w.heap.size (fun k_ => some k_ ≠ (v1_ : Value).ownBlock) v0_ r1 ∧ Kd.R k35 35 w' w.heap.size (fun k_ => some k_ ≠ (v0_ : Value).ownBlock) v1_ r2 ∧ Below w.heap.size w w' := by
 have hu35 := Try.underlying35
 have HR0 := am hr0
 have HC0 := am hc0
 clear hr0 hc0
 have HB := am (Below.refl w.heap.size w)
 unfold spec_DrawIsWithinGrants.f at h
 have H := h
 clear h
 replace H := bO H
 obtain ⟨⟨t449, t450, t451⟩, A2, H⟩ := H
 try dsimp only at H
 replace H := bO H
 obtain ⟨⟨t453, t456, t457⟩, A3, H⟩ := H
 try dsimp only at H
 obtain ⟨y458, hy458⟩ : ∃ y_ : List (S35), y_ = (([] : List (S35))) := ⟨_, rfl⟩
 replace H : (spec_DrawIsWithinGrants.l0 k t453 y458 0 t449 t456 t457) = some (r1, r2) := by first | (rw [hy458]; with_reducible exact H) | (have H2_ := (Option.bind_some _ _).symm.trans H; rw [hy458]; with_reducible exact H2_) | (have H2_ := (Option.bind_some _ _).symm.trans H; with_reducible exact H2_) | with_reducible exact H | (rw [hy458]; exact H) | exact H
 have Ny458 := am hy458
 clear hy458
 have H' := am H
 clear H
 go_enter Try.func18, Try.ntmps18
 go_wp2_with (first | ((with_reducible refine gate_callee (f := 30) rfl ?_); refine gL (some 11) Try.func30 #[.slice A0 l0.length c0] ?_; (with_reducible refine (spec_l1New.calls k _ _ l0 t449 t450 t451 w _ ?side1 ?side2 ?side3 A2.out).mono ?_); (case side1 => exact sB HB.out); (case side2 => exact HR0.out); (case side3 => exact HC0.out); rintro e w4 ⟨g452, rfl, hi, hb, hb2⟩; refine ⟨_, rfl, ?_⟩; have n0_ := am (hb); have n1_ := am (hi); clear HB; have HB := n0_; have HI452 := n1_; clear n0_ n1_; (try clear hb); (try clear hb2); (try clear hi)) | ((with_reducible refine gate_callee (f := 31) rfl ?_); refine gL (some 13) Try.func31 #[.pointer (some ⟨g452, 0, none⟩)] ?_; (with_reducible refine (spec_l10List.calls k g452 t449 t450 t451 t453 t456 t457 w _ ?side1 ?side2 A3.out).mono ?_); (case side1 => exact iS HI452.out); (case side2 => exact sG (IsS92.ge HI452.out) HB.out); rintro e w5 ⟨v454, rfl, ho0, hi, hb, hk⟩; refine ⟨_, rfl, ?_⟩; have n0_ := am (Kd.R_lower ho0 (below_size (sG (IsS92.ge HI452.out) HB.out))); have n1_ := am (hb); have n2_ := am (hi); clear HB; clear HI452; have HO455 := n0_; have HB := n1_; have HI452 := n2_; clear n0_ n1_ n2_; (try clear hb); (try clear hk); (try clear hi); (try clear ho0)) | ((with_reducible refine gate_dst (N := 14) rfl ?_); refine Kd.R_lit k35 _ 35 ?hg (N := 14) ?hd (xs := ([] : List (S35))) (inner := []) (ok := fun _ => True) (okp := fun _ => True) ?hr ?hp (fun _ hk => hk) trivial (Below.refl _ _) (Nat.le_refl _) (by simp) ?_; (case hd => rfl); (case hg => rfl); (case hr => first | (go_simp; done) | (go_simp; rfl)); (case hp => exact (Reps.none _ _)); intro v459 w6 ho7 hb hg_ hnew_; clear hg_ hnew_; (first | rw [← Ny458.out] at ho7 | (simp only [Int.reduceToNat] at ho7; rw [← Ny458.out] at ho7)); have n0_ := am (Kd.R_elder' (rB HO455.out) (Kd.R_base ho7) hb); have n1_ := am (Kd.R_lower (Kd.R_new' ho7 (Kd.R_lt (rB HO455.out))) (below_size (sG (IsS92.ge HI452.out) HB.out))); have n2_ := am (IsS92.below (iS HI452.out) hb); have n3_ := am (Kh (sG (IsS92.ge HI452.out) HB.out) hb); clear HO455; clear HI452; clear HB; have HO455 := n0_; have HO460 := n1_; have HI452 := n2_; have HB := n3_; clear n0_ n1_ n2_ n3_; clear hb ho7))
 go_loopg [6, 7] k (fun kq v6 v7 w' => ∃ (x6_1 : List (S35)) (x7_1 : Int) (x453001_1 : Int) (x453002_1 : Int), v7 = .int .i64 x7_1 ∧ Aside0 (spec_DrawIsWithinGrants.l0 kq t453 x6_1 x7_1 t449 x453001_1 x453002_1 = some (r1, r2)) ∧ Aside0 (kq ≤ k) ∧ Aside0 (Kd.R k35 35 w' w.heap.size (fun k_ => some k_ ≠ (v6 : Value).ownBlock) v454 t453) ∧ Aside0 (Kd.R k35 35 w' w.heap.size (fun k_ => some k_ ≠ (v454 : Value).ownBlock) v6 x6_1) ∧ Aside0 (IsS92 w w' g452 t449 x453001_1 x453002_1) ∧ Aside0 (Below w.heap.size w w'))
 case atStart => exact ⟨(y458), (0), (t456), (t457), (by first | rfl | (simp; done) | (simp [*]; done)), H', ⟨Nat.le_refl _⟩, ⟨by (with_reducible repeat (first | apply Kd.R_alloc | apply Kd.R_drewN | apply Kd.R_drew)); exact Kt HO455.out (fun _ hk => hk.2)⟩, ⟨by (with_reducible repeat (first | apply Kd.R_alloc | apply Kd.R_drewN | apply Kd.R_drew)); exact Kt HO460.out (fun _ hk => hk.2)⟩, ⟨(iS HI452.out)⟩, ⟨(sG (IsS92.ge HI452.out) HB.out)⟩⟩
 case round =>
  clear H'
  try clear c1
  try clear p2
  try clear c3
  obtain ⟨x6_1, x7_1, x453001_1, x453002_1, rfl, HA, HK1, HO_5, HO_6, HI452, HB⟩ := hrel
  cases gk with
  | zero => exact absurd HA.out (by simp [spec_DrawIsWithinGrants.l0])
  | succ k1 =>
   have H := HA.out
   clear HA
   simp only [spec_DrawIsWithinGrants.l0] at H
   by_cases c8 : x7_1 < (t453.length : Int)
   ·rw [if_pos c8] at H
    have c8b0 : decide (x7_1 < (t453.length : Int)) = true := decide_eq_true c8
    clear c8
    by_cases c9 : 0 ≤ x7_1
    ·rw [if_pos c9] at H
     have c9b0 : decide (0 ≤ x7_1) = true := decide_eq_true c9
     clear c9
     replace H := bO H
     obtain ⟨⟨t462, t463, t464, t465⟩, A10, H⟩ := H
     try dsimp only at H
     replace H := bO H
     obtain ⟨⟨t466, t467, t468, t469, t470, t471, t472, t473⟩, A11, H⟩ := H
     try dsimp only at H
     by_cases c12 : t473 = true
     ·subst c12
      replace H := hT H
      replace H := bO H
      obtain ⟨⟨t475, t476, t477⟩, A13, H⟩ := H
      try dsimp only at H
      by_cases c14 : t475 = true
      ·subst c14
       replace H := hT H
       by_cases c15 : x6_1.length < 2513169434916
       ·rw [if_pos c15] at H
        have LMc15 := am c15
        clear c15
        obtain ⟨y478, hy478⟩ : ∃ y_ : List (S35), y_ = (x6_1 ++ [(⟨t466, (⟨t467, t468⟩ : S33), t469, t470, t471, t472⟩ : S35)]) := ⟨_, rfl⟩
        replace H : (spec_DrawIsWithinGrants.l0 k1 t453 y478 (wrap64 (x7_1 + 1)) t449 t476 t477) = some (r1, r2) := by first | (rw [hy478]; with_reducible exact H) | (have H2_ := (Option.bind_some _ _).symm.trans H; rw [hy478]; with_reducible exact H2_) | (have H2_ := (Option.bind_some _ _).symm.trans H; with_reducible exact H2_) | with_reducible exact H | (rw [hy478]; exact H) | exact H
        have Ny478 := am hy478
        clear hy478
        have H' := am H
        clear H
        obtain ⟨Ao16, co16, eo16⟩ := Kd.R_slice HO_5.out
        subst eo16
        try go_wp2
        replace HO_5 := am (Kd.R_drew HO_5.out)
        replace HO_6 := am (Kd.R_drew HO_6.out)
        replace HI452 := am (IsS92.drew HI452.out)
        replace HB := am (Ks HB.out)
        have p461 : 0 ≤ (x7_1 : Int) := Kp (by first | (with_reducible assumption) | assumption)
        have q461 : x7_1 < (t453.length : Int) := Kp (by first | (with_reducible assumption) | assumption)
        obtain ⟨ad461, e461, hx461_0, hx461_1, hx461_2, hx461_3, hx461_4, hx461_5, hx461_6⟩ := at_T35 (Kq HO_5.out).2.2 x7_1 p461 q461
        cases e461
        replace p461 := eq_true p461
        replace q461 := eq_true q461
        refine start_ (n := 13) (S := fun w' => w'.cell? (ad461.add ((x7_1).toNat * 7)) = some (.int .i64 ((rd_T35 t453 x7_1).f0)) ∧ w'.cell? ⟨(ad461.add ((x7_1).toNat * 7)).block, (ad461.add ((x7_1).toNat * 7)).off + 1, none⟩ = some (.int .i64 ((rd_T35 t453 x7_1).f1.f0)) ∧ w'.cell? ⟨(ad461.add ((x7_1).toNat * 7)).block, (ad461.add ((x7_1).toNat * 7)).off + 2, none⟩ = some (.int .i64 ((rd_T35 t453 x7_1).f1.f1)) ∧ w'.cell? ⟨(ad461.add ((x7_1).toNat * 7)).block, (ad461.add ((x7_1).toNat * 7)).off + 3, none⟩ = some (.int .i64 ((rd_T35 t453 x7_1).f2)) ∧ w'.cell? ⟨(ad461.add ((x7_1).toNat * 7)).block, (ad461.add ((x7_1).toNat * 7)).off + 4, none⟩ = some (.int .i64 ((rd_T35 t453 x7_1).f3)) ∧ w'.cell? ⟨(ad461.add ((x7_1).toNat * 7)).block, (ad461.add ((x7_1).toNat * 7)).off + 5, none⟩ = some (.int .i64 ((rd_T35 t453 x7_1).f4)) ∧ w'.cell? ⟨(ad461.add ((x7_1).toNat * 7)).block, (ad461.add ((x7_1).toNat * 7)).off + 6, none⟩ = some (.bool ((rd_T35 t453 x7_1).f5))) (ds := []) #[z,z,z,z,z,z,z,z,z,z,z,z,z] (by kernel_rfl) rfl rfl ⟨hx461_0, hx461_1, hx461_2, hx461_3, hx461_4, hx461_5, hx461_6⟩ (fun hHeld => ?_); refine with_tabW spec_DrawIsWithinGrants.tab7 spec_DrawIsWithinGrants.bits7 (fun HT_ HW_ => ?_)
        generalize wr.drew = w17 at HO_5 HO_6 HI452 HB hx461_0 hx461_1 hx461_2 hx461_3 hx461_4 hx461_5 hx461_6 hHeld ⊢
        refine pu 0 22 #[o,z,z,z,z,z,z,z,z,z,z,z,z] HT_ ?_
        refine pu 1 23 #[o,o,z,z,z,z,z,z,z,z,z,z,z] HT_ ?_
        refine pu 2 24 #[o,o,o,z,z,z,z,z,z,z,z,z,z] HT_ ?_
        refine pu 4 26 #[o,o,o,z,o,z,z,z,z,z,z,z,z] HT_ ?_
        refine take_ (i := 3) (N := some 25) (v := ?_) (a' := ?_) #[o,o,o,o,o,z,z,z,z,z,z,z,z] rfl rfl (take_ofW HT_.out HW_.out (by kernel_rfl)) (fun _ _ _ h => h) (Or.inl ⟨by rfl, ?_⟩) hHeld ?_ ?_
        rotate_left
        ·rintro w' ⟨s0, s1, s2, s3, s4, s5, s6⟩
         go_simp
         with_reducible rfl
        rotate_left
        ·simp only [Act.put, qa, qb, qc, i64_w, i32_w]
         rfl
        refine join_ (σ := Nat) 2 #[o,o,o,o,o,o,o,o,o,o,o,z,z] (fun s_ => [(27, .agg #[.int .i64 t462, .int .i64 t463]), (28, .tuple #[.agg #[.int .i64 t466, .int .i64 t467, .int .i64 t468, .int .i64 t469, .int .i64 t470, .int .i64 t471, .bool t472], .bool true]), (8, .pointer (some ⟨s_, 0, none⟩)), (21, .tuple #[.agg #[.int .i64 t466, .int .i64 t467, .int .i64 t468, .int .i64 t469, .int .i64 t470, .int .i64 t471, .bool t472], .bool true]), (29, .agg #[.int .i64 t466, .int .i64 t467, .int .i64 t468, .int .i64 t469, .int .i64 t470, .int .i64 t471, .bool t472]), (30, .bool true)]) (fun s_ w' => (w'.cell? (ad461.add ((x7_1).toNat * 7)) = some (.int .i64 ((rd_T35 t453 x7_1).f0)) ∧ w'.cell? ⟨(ad461.add ((x7_1).toNat * 7)).block, (ad461.add ((x7_1).toNat * 7)).off + 1, none⟩ = some (.int .i64 ((rd_T35 t453 x7_1).f1.f0)) ∧ w'.cell? ⟨(ad461.add ((x7_1).toNat * 7)).block, (ad461.add ((x7_1).toNat * 7)).off + 2, none⟩ = some (.int .i64 ((rd_T35 t453 x7_1).f1.f1)) ∧ w'.cell? ⟨(ad461.add ((x7_1).toNat * 7)).block, (ad461.add ((x7_1).toNat * 7)).off + 3, none⟩ = some (.int .i64 ((rd_T35 t453 x7_1).f2)) ∧ w'.cell? ⟨(ad461.add ((x7_1).toNat * 7)).block, (ad461.add ((x7_1).toNat * 7)).off + 4, none⟩ = some (.int .i64 ((rd_T35 t453 x7_1).f3)) ∧ w'.cell? ⟨(ad461.add ((x7_1).toNat * 7)).block, (ad461.add ((x7_1).toNat * 7)).off + 5, none⟩ = some (.int .i64 ((rd_T35 t453 x7_1).f4)) ∧ w'.cell? ⟨(ad461.add ((x7_1).toNat * 7)).block, (ad461.add ((x7_1).toNat * 7)).off + 6, none⟩ = some (.bool ((rd_T35 t453 x7_1).f5))) ∧ (Kd.R k35 35 w' w.heap.size (fun k_ => some k_ ≠ (u6 : Value).ownBlock ∧ k_ ≠ s_) (.slice (some ad461) t453.length co16) t453) ∧ (Kd.R k35 35 w' w.heap.size (fun k_ => some k_ ≠ (.slice (some ad461) t453.length co16 : Value).ownBlock ∧ k_ ≠ s_) u6 x6_1) ∧ (w'.heap[s_]? = some (.cells #[.int .i64 0, .int .i64 0, .int .i64 0, .int .i64 0, .int .i64 0, .int .i64 0, .bool false] 35 (0, 0))) ∧ (w.heap.size ≤ s_) ∧ (w.heap.size ≤ s_) ∧ (g452 ≠ s_) ∧ (s_ ≠ g452) ∧ (IsS92 w w' g452 t449 t464 t465) ∧ (Below w.heap.size w w')) ?_ ?_
        rotate_left
        ·intro hCont
         refine two_ (i := 5) (j := 10) (Ni := some 27) (Nj := some 8) #[o,o,o,o,o,o,z,z,z,z,z,z,z] #[o,o,o,o,o,z,z,z,z,z,o,z,z] rfl rfl rfl rfl (two_of HT_.out (by kernel_rfl)) (by decide) (by decide) (fun K hK => ?_) (fun K hK => ?_)
         ·skip
          refine gS Try.func48 #[.pointer (some ⟨g452, 0, none⟩)] ?_
          with_reducible refine (spec_l9Pattern.calls g452 t449 x453001_1 x453002_1 t462 t463 t464 t465 w _ ?side1 ?side2 A10.out).mono ?_
          (case side1 => exact iS HI452.out)
          (case side2 => exact sG (IsS92.ge HI452.out) HB.out)
          rintro e w18 ⟨rfl, hi, hb, hk⟩
          have HS0_ := keep_cell hk (hHeld.1) (by first | (rw [Ke]; exact Ka (IsS92.own_ne HI452.out HO_5.out (by decide))) | (show (Addr.add _ _).block ≠ _; rw [Ke]; exact Ka (IsS92.own_ne HI452.out HO_5.out (by decide))) | exact Ka (IsS92.own_ne HI452.out HO_5.out (by decide)))
          have HS1_ := keep_cell hk (hHeld.2.1) (by first | (rw [Ke]; exact Ka (IsS92.own_ne HI452.out HO_5.out (by decide))) | (show (Addr.add _ _).block ≠ _; rw [Ke]; exact Ka (IsS92.own_ne HI452.out HO_5.out (by decide))) | exact Ka (IsS92.own_ne HI452.out HO_5.out (by decide)))
          have HS2_ := keep_cell hk (hHeld.2.2.1) (by first | (rw [Ke]; exact Ka (IsS92.own_ne HI452.out HO_5.out (by decide))) | (show (Addr.add _ _).block ≠ _; rw [Ke]; exact Ka (IsS92.own_ne HI452.out HO_5.out (by decide))) | exact Ka (IsS92.own_ne HI452.out HO_5.out (by decide)))
          have HS3_ := keep_cell hk (hHeld.2.2.2.1) (by first | (rw [Ke]; exact Ka (IsS92.own_ne HI452.out HO_5.out (by decide))) | (show (Addr.add _ _).block ≠ _; rw [Ke]; exact Ka (IsS92.own_ne HI452.out HO_5.out (by decide))) | exact Ka (IsS92.own_ne HI452.out HO_5.out (by decide)))
          have HS4_ := keep_cell hk (hHeld.2.2.2.2.1) (by first | (rw [Ke]; exact Ka (IsS92.own_ne HI452.out HO_5.out (by decide))) | (show (Addr.add _ _).block ≠ _; rw [Ke]; exact Ka (IsS92.own_ne HI452.out HO_5.out (by decide))) | exact Ka (IsS92.own_ne HI452.out HO_5.out (by decide)))
          have HS5_ := keep_cell hk (hHeld.2.2.2.2.2.1) (by first | (rw [Ke]; exact Ka (IsS92.own_ne HI452.out HO_5.out (by decide))) | (show (Addr.add _ _).block ≠ _; rw [Ke]; exact Ka (IsS92.own_ne HI452.out HO_5.out (by decide))) | exact Ka (IsS92.own_ne HI452.out HO_5.out (by decide)))
          have HS6_ := keep_cell hk (hHeld.2.2.2.2.2.2) (by first | (rw [Ke]; exact Ka (IsS92.own_ne HI452.out HO_5.out (by decide))) | (show (Addr.add _ _).block ≠ _; rw [Ke]; exact Ka (IsS92.own_ne HI452.out HO_5.out (by decide))) | exact Ka (IsS92.own_ne HI452.out HO_5.out (by decide)))
          refine ⟨_, rfl, ?_⟩
          replace HO_5 := am (Kt (Kd.R_keep (IsS92.apart (show IsS92 w _ g452 t449 x453001_1 x453002_1 from (iS HI452.out)) (rB HO_5.out) (by decide)) hk (fun _ h => h.2)) (fun _ h => h.1))
          replace HO_6 := am (Kt (Kd.R_keep (IsS92.apart (show IsS92 w _ g452 t449 x453001_1 x453002_1 from (iS HI452.out)) (rB HO_6.out) (by decide)) hk (fun _ h => h.2)) (fun _ h => h.1))
          replace HB := am (hb)
          replace HI452 := am (hi)
          (try clear hb)
          (try clear hb2)
          (try clear hk)
          (try clear hi)
          refine hK.out _ _ ⟨HS0_, HS1_, HS2_, HS3_, HS4_, HS5_, HS6_⟩ (fun hHeld => ?_)
          clear hK K
          refine norm_ (a' := ?_) ?_ ?_
          rotate_left
          ·show Act.put _ (some 27) _ = _
           simp only [Act.put, qa, qb, qc, i64_w, i32_w]
           rfl
          refine two_ (i := 6) (j := 10) (Ni := some 28) (Nj := some 8) #[o,o,o,o,o,o,o,z,z,z,z,z,z] #[o,o,o,o,o,o,z,z,z,z,o,z,z] rfl rfl rfl rfl (two_of HT_.out (by kernel_rfl)) (by decide) (by decide) (fun K hK => ?_) (fun K hK => ?_)
          ·skip
           refine gS Try.func47 #[.agg #[.int .i64 ((rd_T35 t453 x7_1).f0), .int .i64 ((rd_T35 t453 x7_1).f1.f0), .int .i64 ((rd_T35 t453 x7_1).f1.f1), .int .i64 ((rd_T35 t453 x7_1).f2), .int .i64 ((rd_T35 t453 x7_1).f3), .int .i64 ((rd_T35 t453 x7_1).f4), .bool ((rd_T35 t453 x7_1).f5)], .agg #[.int .i64 t462, .int .i64 t463]] ?_
           with_reducible refine (spec_NarrowGrant.calls k1 ((rd_T35 t453 x7_1).f0) ((rd_T35 t453 x7_1).f1.f0) ((rd_T35 t453 x7_1).f1.f1) ((rd_T35 t453 x7_1).f2) ((rd_T35 t453 x7_1).f3) ((rd_T35 t453 x7_1).f4) ((rd_T35 t453 x7_1).f5) t462 t463 t466 t467 t468 t469 t470 t471 t472 true _ A11.out).mono ?_
           rintro e w19 ⟨rfl, hb⟩
           have HS0_ := (hb.cell (Kf _ _ (hHeld.1))).trans (hHeld.1)
           have HS1_ := (hb.cell (Kf _ _ (hHeld.2.1))).trans (hHeld.2.1)
           have HS2_ := (hb.cell (Kf _ _ (hHeld.2.2.1))).trans (hHeld.2.2.1)
           have HS3_ := (hb.cell (Kf _ _ (hHeld.2.2.2.1))).trans (hHeld.2.2.2.1)
           have HS4_ := (hb.cell (Kf _ _ (hHeld.2.2.2.2.1))).trans (hHeld.2.2.2.2.1)
           have HS5_ := (hb.cell (Kf _ _ (hHeld.2.2.2.2.2.1))).trans (hHeld.2.2.2.2.2.1)
           have HS6_ := (hb.cell (Kf _ _ (hHeld.2.2.2.2.2.2))).trans (hHeld.2.2.2.2.2.2)
           refine ⟨_, rfl, ?_⟩
           have n0_ := am (Ko (rB HO_5.out) hb)
           have n1_ := am (Ko (rB HO_6.out) hb)
           have n2_ := am (IsS92.below (iS HI452.out) hb)
           have n3_ := am (Kh (sG (IsS92.ge HI452.out) HB.out) hb)
           clear HO_5
           clear HO_6
           clear HI452
           clear HB
           have HO_5 := n0_
           have HO_6 := n1_
           have HI452 := n2_
           have HB := n3_
           clear n0_ n1_ n2_ n3_
           (try clear hb)
           (try clear hb2)
           (try clear hk)
           (try clear hi)
           refine hK.out _ _ ⟨HS0_, HS1_, HS2_, HS3_, HS4_, HS5_, HS6_⟩ (fun hHeld => ?_)
           clear hK K
           refine norm_ (a' := ?_) ?_ ?_
           rotate_left
           ·show Act.put _ (some 28) _ = _
            simp only [Act.put, qa, qb, qc, i64_w, i32_w]
            rfl
           refine pu 7 21 #[o,o,o,o,o,o,o,o,z,z,z,z,z] HT_ ?_
           refine pu 8 29 #[o,o,o,o,o,o,o,o,o,z,z,z,z] HT_ ?_
           refine pu 9 30 #[o,o,o,o,o,o,o,o,o,o,z,z,z] HT_ ?_
           refine one_ (i := 10) (N := some 8) #[o,o,o,o,o,o,o,o,o,o,o,z,z] rfl rfl (one_of HT_.out (by kernel_rfl)) (by decide) (fun K hK => ?_)
           refine box_step ?hg (N := 8) ?hd (cs := #[.int .i64 0, .int .i64 0, .int .i64 0, .int .i64 0, .int .i64 0, .int .i64 0, .bool false]) (t := 35) ?hr ?_; (case hd => rfl); (case hg => rfl); (case hr => first | (go_simp; done) | (go_simp; rfl))
           intro gb474 hg w20 hbox hb
           have HS0_ := (hb.cell (Kf _ _ (hHeld.1))).trans (hHeld.1)
           have HS1_ := (hb.cell (Kf _ _ (hHeld.2.1))).trans (hHeld.2.1)
           have HS2_ := (hb.cell (Kf _ _ (hHeld.2.2.1))).trans (hHeld.2.2.1)
           have HS3_ := (hb.cell (Kf _ _ (hHeld.2.2.2.1))).trans (hHeld.2.2.2.1)
           have HS4_ := (hb.cell (Kf _ _ (hHeld.2.2.2.2.1))).trans (hHeld.2.2.2.2.1)
           have HS5_ := (hb.cell (Kf _ _ (hHeld.2.2.2.2.2.1))).trans (hHeld.2.2.2.2.2.1)
           have HS6_ := (hb.cell (Kf _ _ (hHeld.2.2.2.2.2.2))).trans (hHeld.2.2.2.2.2.2)
           have n0_ := am (Ko (Kd.R_elderB (rB HO_5.out) gb474 (Nat.le_of_eq hg.symm)) hb)
           have n1_ := am (Ko (Kd.R_elderB (rB HO_6.out) gb474 (Nat.le_of_eq hg.symm)) hb)
           have n2_ := am (IsS92.below (iS HI452.out) hb)
           have n3_ := am (Kh (sG (IsS92.ge HI452.out) HB.out) hb)
           have n4_ := am (hbox)
           have n5_ := am ((by rw [hg]; exact (below_size (sG (IsS92.ge HI452.out) HB.out)) : w.heap.size ≤ gb474))
           have n6_ := am ((by rw [hg]; exact (below_size (sG (IsS92.ge HI452.out) HB.out)) : w.heap.size ≤ gb474))
           have n7_ := am ((by rw [hg]; exact Nat.ne_of_lt (IsS92.lt (show IsS92 w _ g452 t449 t464 t465 from (iS HI452.out))) : g452 ≠ gb474))
           have n8_ := am ((by rw [hg]; exact Nat.ne_of_gt (IsS92.lt (show IsS92 w _ g452 t449 t464 t465 from (iS HI452.out))) : gb474 ≠ g452))
           clear HO_5
           clear HO_6
           clear HI452
           clear HB
           have HO_5 := n0_
           have HO_6 := n1_
           have HI452 := n2_
           have HB := n3_
           have BK474 := n4_
           have GW474 := n5_
           have GE474 := n6_
           have NB452_474 := n7_
           have NB474_452 := n8_
           clear n0_ n1_ n2_ n3_ n4_ n5_ n6_ n7_ n8_
           clear hb hbox hg
           refine hK.out _ _ ⟨HS0_, HS1_, HS2_, HS3_, HS4_, HS5_, HS6_⟩ (fun hHeld => ?_)
           clear hK K
           refine norm_ (a' := ?_) ?_ ?_
           rotate_left
           ·show Act.put _ (some 8) _ = _
            simp only [Act.put, qa, qb, qc, i64_w, i32_w]
            rfl
           exact norm_ (by simp only [putAll, Act.put, List.setIfInBounds_toArray, List.set_cons_zero, List.set_cons_succ]) (hCont (gb474) _ ⟨hHeld, (rB HO_5.out), (rB HO_6.out), (bB BK474.out), GW474.out, GE474.out, NB452_474.out, NB474_452.out, (iT NB452_474.out HI452.out), (by repeat (first | (with_reducible first | exact HB.out | apply Ky | apply Kj | apply Ks | refine Ki ?_ (IsS92.ge HI452.out) | refine Ki ?_ GE474.out) | exact HB.out))⟩)
          ·skip
           refine box_step ?hg (N := 8) ?hd (cs := #[.int .i64 0, .int .i64 0, .int .i64 0, .int .i64 0, .int .i64 0, .int .i64 0, .bool false]) (t := 35) ?hr ?_; (case hd => rfl); (case hg => rfl); (case hr => first | (go_simp; done) | (go_simp; rfl))
           intro gb474 hg w19 hbox hb
           have HS0_ := (hb.cell (Kf _ _ (hHeld.1))).trans (hHeld.1)
           have HS1_ := (hb.cell (Kf _ _ (hHeld.2.1))).trans (hHeld.2.1)
           have HS2_ := (hb.cell (Kf _ _ (hHeld.2.2.1))).trans (hHeld.2.2.1)
           have HS3_ := (hb.cell (Kf _ _ (hHeld.2.2.2.1))).trans (hHeld.2.2.2.1)
           have HS4_ := (hb.cell (Kf _ _ (hHeld.2.2.2.2.1))).trans (hHeld.2.2.2.2.1)
           have HS5_ := (hb.cell (Kf _ _ (hHeld.2.2.2.2.2.1))).trans (hHeld.2.2.2.2.2.1)
           have HS6_ := (hb.cell (Kf _ _ (hHeld.2.2.2.2.2.2))).trans (hHeld.2.2.2.2.2.2)
           have n0_ := am (Ko (Kd.R_elderB (rB HO_5.out) gb474 (Nat.le_of_eq hg.symm)) hb)
           have n1_ := am (Ko (Kd.R_elderB (rB HO_6.out) gb474 (Nat.le_of_eq hg.symm)) hb)
           have n2_ := am (IsS92.below (iS HI452.out) hb)
           have n3_ := am (Kh (sG (IsS92.ge HI452.out) HB.out) hb)
           have n4_ := am (hbox)
           have n5_ := am ((by rw [hg]; exact (below_size (sG (IsS92.ge HI452.out) HB.out)) : w.heap.size ≤ gb474))
           have n6_ := am ((by rw [hg]; exact (below_size (sG (IsS92.ge HI452.out) HB.out)) : w.heap.size ≤ gb474))
           have n7_ := am ((by rw [hg]; exact Nat.ne_of_lt (IsS92.lt (show IsS92 w _ g452 t449 t464 t465 from (iS HI452.out))) : g452 ≠ gb474))
           have n8_ := am ((by rw [hg]; exact Nat.ne_of_gt (IsS92.lt (show IsS92 w _ g452 t449 t464 t465 from (iS HI452.out))) : gb474 ≠ g452))
           clear HO_5
           clear HO_6
           clear HI452
           clear HB
           have HO_5 := n0_
           have HO_6 := n1_
           have HI452 := n2_
           have HB := n3_
           have BK474 := n4_
           have GW474 := n5_
           have GE474 := n6_
           have NB452_474 := n7_
           have NB474_452 := n8_
           clear n0_ n1_ n2_ n3_ n4_ n5_ n6_ n7_ n8_
           clear hb hbox hg
           refine hK.out _ _ ⟨HS0_, HS1_, HS2_, HS3_, HS4_, HS5_, HS6_⟩ (fun hHeld => ?_)
           clear hK K
           refine norm_ (a' := ?_) ?_ ?_
           rotate_left
           ·show Act.put _ (some 8) _ = _
            simp only [Act.put, qa, qb, qc, i64_w, i32_w]
            rfl
           refine one_ (i := 6) (N := some 28) #[o,o,o,o,o,o,o,z,z,z,o,z,z] rfl rfl (one_of HT_.out (by kernel_rfl)) (by decide) (fun K hK => ?_)
           refine gS Try.func47 #[.agg #[.int .i64 ((rd_T35 t453 x7_1).f0), .int .i64 ((rd_T35 t453 x7_1).f1.f0), .int .i64 ((rd_T35 t453 x7_1).f1.f1), .int .i64 ((rd_T35 t453 x7_1).f2), .int .i64 ((rd_T35 t453 x7_1).f3), .int .i64 ((rd_T35 t453 x7_1).f4), .bool ((rd_T35 t453 x7_1).f5)], .agg #[.int .i64 t462, .int .i64 t463]] ?_
           with_reducible refine (spec_NarrowGrant.calls k1 ((rd_T35 t453 x7_1).f0) ((rd_T35 t453 x7_1).f1.f0) ((rd_T35 t453 x7_1).f1.f1) ((rd_T35 t453 x7_1).f2) ((rd_T35 t453 x7_1).f3) ((rd_T35 t453 x7_1).f4) ((rd_T35 t453 x7_1).f5) t462 t463 t466 t467 t468 t469 t470 t471 t472 true _ A11.out).mono ?_
           rintro e w20 ⟨rfl, hb⟩
           have HS0_ := (hb.cell (Kf _ _ (hHeld.1))).trans (hHeld.1)
           have HS1_ := (hb.cell (Kf _ _ (hHeld.2.1))).trans (hHeld.2.1)
           have HS2_ := (hb.cell (Kf _ _ (hHeld.2.2.1))).trans (hHeld.2.2.1)
           have HS3_ := (hb.cell (Kf _ _ (hHeld.2.2.2.1))).trans (hHeld.2.2.2.1)
           have HS4_ := (hb.cell (Kf _ _ (hHeld.2.2.2.2.1))).trans (hHeld.2.2.2.2.1)
           have HS5_ := (hb.cell (Kf _ _ (hHeld.2.2.2.2.2.1))).trans (hHeld.2.2.2.2.2.1)
           have HS6_ := (hb.cell (Kf _ _ (hHeld.2.2.2.2.2.2))).trans (hHeld.2.2.2.2.2.2)
           refine ⟨_, rfl, ?_⟩
           have n0_ := am (Ko (rB HO_5.out) hb)
           have n1_ := am (Ko (rB HO_6.out) hb)
           have n2_ := am (IsS92.below (iT NB452_474.out HI452.out) hb)
           have n3_ := am (Kb (bB BK474.out) hb)
           have n4_ := am (Kh (by repeat (first | (with_reducible first | exact HB.out | apply Ky | apply Kj | apply Ks | refine Ki ?_ (IsS92.ge HI452.out) | refine Ki ?_ GE474.out) | exact HB.out)) hb)
           clear HO_5
           clear HO_6
           clear HI452
           clear BK474
           clear HB
           have HO_5 := n0_
           have HO_6 := n1_
           have HI452 := n2_
           have BK474 := n3_
           have HB := n4_
           clear n0_ n1_ n2_ n3_ n4_
           (try clear hb)
           (try clear hb2)
           (try clear hk)
           (try clear hi)
           refine hK.out _ _ ⟨HS0_, HS1_, HS2_, HS3_, HS4_, HS5_, HS6_⟩ (fun hHeld => ?_)
           clear hK K
           refine norm_ (a' := ?_) ?_ ?_
           rotate_left
           ·show Act.put _ (some 28) _ = _
            simp only [Act.put, qa, qb, qc, i64_w, i32_w]
            rfl
           refine pu 7 21 #[o,o,o,o,o,o,o,o,z,z,o,z,z] HT_ ?_
           refine pu 8 29 #[o,o,o,o,o,o,o,o,o,z,o,z,z] HT_ ?_
           refine pu 9 30 #[o,o,o,o,o,o,o,o,o,o,o,z,z] HT_ ?_
           exact norm_ (by simp only [putAll, Act.put, List.setIfInBounds_toArray, List.set_cons_zero, List.set_cons_succ]) (hCont (gb474) _ ⟨hHeld, (rB HO_5.out), (rB HO_6.out), (bB BK474.out), GW474.out, GE474.out, NB452_474.out, NB474_452.out, (iT NB452_474.out HI452.out), (by repeat (first | (with_reducible first | exact HB.out | apply Ky | apply Kj | apply Ks | refine Ki ?_ (IsS92.ge HI452.out) | refine Ki ?_ GE474.out) | exact HB.out))⟩)
         ·skip
          refine box_step ?hg (N := 8) ?hd (cs := #[.int .i64 0, .int .i64 0, .int .i64 0, .int .i64 0, .int .i64 0, .int .i64 0, .bool false]) (t := 35) ?hr ?_; (case hd => rfl); (case hg => rfl); (case hr => first | (go_simp; done) | (go_simp; rfl))
          intro gb474 hg w18 hbox hb
          have HS0_ := (hb.cell (Kf _ _ (hHeld.1))).trans (hHeld.1)
          have HS1_ := (hb.cell (Kf _ _ (hHeld.2.1))).trans (hHeld.2.1)
          have HS2_ := (hb.cell (Kf _ _ (hHeld.2.2.1))).trans (hHeld.2.2.1)
          have HS3_ := (hb.cell (Kf _ _ (hHeld.2.2.2.1))).trans (hHeld.2.2.2.1)
          have HS4_ := (hb.cell (Kf _ _ (hHeld.2.2.2.2.1))).trans (hHeld.2.2.2.2.1)
          have HS5_ := (hb.cell (Kf _ _ (hHeld.2.2.2.2.2.1))).trans (hHeld.2.2.2.2.2.1)
          have HS6_ := (hb.cell (Kf _ _ (hHeld.2.2.2.2.2.2))).trans (hHeld.2.2.2.2.2.2)
          have n0_ := am (Ko (Kd.R_elderB (rB HO_5.out) gb474 (Nat.le_of_eq hg.symm)) hb)
          have n1_ := am (Ko (Kd.R_elderB (rB HO_6.out) gb474 (Nat.le_of_eq hg.symm)) hb)
          have n2_ := am (IsS92.below (iS HI452.out) hb)
          have n3_ := am (Kh (sG (IsS92.ge HI452.out) HB.out) hb)
          have n4_ := am (hbox)
          have n5_ := am ((by rw [hg]; exact (below_size (sG (IsS92.ge HI452.out) HB.out)) : w.heap.size ≤ gb474))
          have n6_ := am ((by rw [hg]; exact (below_size (sG (IsS92.ge HI452.out) HB.out)) : w.heap.size ≤ gb474))
          have n7_ := am ((by rw [hg]; exact Nat.ne_of_lt (IsS92.lt (show IsS92 w _ g452 t449 x453001_1 x453002_1 from (iS HI452.out))) : g452 ≠ gb474))
          have n8_ := am ((by rw [hg]; exact Nat.ne_of_gt (IsS92.lt (show IsS92 w _ g452 t449 x453001_1 x453002_1 from (iS HI452.out))) : gb474 ≠ g452))
          clear HO_5
          clear HO_6
          clear HI452
          clear HB
          have HO_5 := n0_
          have HO_6 := n1_
          have HI452 := n2_
          have HB := n3_
          have BK474 := n4_
          have GW474 := n5_
          have GE474 := n6_
          have NB452_474 := n7_
          have NB474_452 := n8_
          clear n0_ n1_ n2_ n3_ n4_ n5_ n6_ n7_ n8_
          clear hb hbox hg
          refine hK.out _ _ ⟨HS0_, HS1_, HS2_, HS3_, HS4_, HS5_, HS6_⟩ (fun hHeld => ?_)
          clear hK K
          refine norm_ (a' := ?_) ?_ ?_
          rotate_left
          ·show Act.put _ (some 8) _ = _
           simp only [Act.put, qa, qb, qc, i64_w, i32_w]
           rfl
          refine one_ (i := 5) (N := some 27) #[o,o,o,o,o,o,z,z,z,z,o,z,z] rfl rfl (one_of HT_.out (by kernel_rfl)) (by decide) (fun K hK => ?_)
          refine gS Try.func48 #[.pointer (some ⟨g452, 0, none⟩)] ?_
          with_reducible refine (spec_l9Pattern.calls g452 t449 x453001_1 x453002_1 t462 t463 t464 t465 w _ ?side1 ?side2 A10.out).mono ?_
          (case side1 => exact iT NB452_474.out HI452.out)
          (case side2 => repeat (first | (with_reducible first | exact HB.out | apply Ky | apply Kj | apply Ks | refine Ki ?_ (IsS92.ge HI452.out) | refine Ki ?_ GE474.out) | exact HB.out))
          rintro e w19 ⟨rfl, hi, hb, hk⟩
          have HS0_ := keep_cell hk (hHeld.1) (by first | (rw [Ke]; exact Ka (IsS92.own_ne HI452.out HO_5.out (by decide))) | (show (Addr.add _ _).block ≠ _; rw [Ke]; exact Ka (IsS92.own_ne HI452.out HO_5.out (by decide))) | exact Ka (IsS92.own_ne HI452.out HO_5.out (by decide)))
          have HS1_ := keep_cell hk (hHeld.2.1) (by first | (rw [Ke]; exact Ka (IsS92.own_ne HI452.out HO_5.out (by decide))) | (show (Addr.add _ _).block ≠ _; rw [Ke]; exact Ka (IsS92.own_ne HI452.out HO_5.out (by decide))) | exact Ka (IsS92.own_ne HI452.out HO_5.out (by decide)))
          have HS2_ := keep_cell hk (hHeld.2.2.1) (by first | (rw [Ke]; exact Ka (IsS92.own_ne HI452.out HO_5.out (by decide))) | (show (Addr.add _ _).block ≠ _; rw [Ke]; exact Ka (IsS92.own_ne HI452.out HO_5.out (by decide))) | exact Ka (IsS92.own_ne HI452.out HO_5.out (by decide)))
          have HS3_ := keep_cell hk (hHeld.2.2.2.1) (by first | (rw [Ke]; exact Ka (IsS92.own_ne HI452.out HO_5.out (by decide))) | (show (Addr.add _ _).block ≠ _; rw [Ke]; exact Ka (IsS92.own_ne HI452.out HO_5.out (by decide))) | exact Ka (IsS92.own_ne HI452.out HO_5.out (by decide)))
          have HS4_ := keep_cell hk (hHeld.2.2.2.2.1) (by first | (rw [Ke]; exact Ka (IsS92.own_ne HI452.out HO_5.out (by decide))) | (show (Addr.add _ _).block ≠ _; rw [Ke]; exact Ka (IsS92.own_ne HI452.out HO_5.out (by decide))) | exact Ka (IsS92.own_ne HI452.out HO_5.out (by decide)))
          have HS5_ := keep_cell hk (hHeld.2.2.2.2.2.1) (by first | (rw [Ke]; exact Ka (IsS92.own_ne HI452.out HO_5.out (by decide))) | (show (Addr.add _ _).block ≠ _; rw [Ke]; exact Ka (IsS92.own_ne HI452.out HO_5.out (by decide))) | exact Ka (IsS92.own_ne HI452.out HO_5.out (by decide)))
          have HS6_ := keep_cell hk (hHeld.2.2.2.2.2.2) (by first | (rw [Ke]; exact Ka (IsS92.own_ne HI452.out HO_5.out (by decide))) | (show (Addr.add _ _).block ≠ _; rw [Ke]; exact Ka (IsS92.own_ne HI452.out HO_5.out (by decide))) | exact Ka (IsS92.own_ne HI452.out HO_5.out (by decide)))
          refine ⟨_, rfl, ?_⟩
          replace HO_5 := am (Kt (Kd.R_keep (IsS92.apart (show IsS92 w _ g452 t449 x453001_1 x453002_1 from (iT NB452_474.out HI452.out)) (rB HO_5.out) (by decide)) hk (fun _ h => h.2)) (fun _ h => h.1))
          replace HO_6 := am (Kt (Kd.R_keep (IsS92.apart (show IsS92 w _ g452 t449 x453001_1 x453002_1 from (iT NB452_474.out HI452.out)) (rB HO_6.out) (by decide)) hk (fun _ h => h.2)) (fun _ h => h.1))
          replace BK474 := am (Kv hk (bB BK474.out) NB474_452.out (by simp))
          replace HB := am (hb)
          replace HI452 := am (hi)
          (try clear hb)
          (try clear hb2)
          (try clear hk)
          (try clear hi)
          refine hK.out _ _ ⟨HS0_, HS1_, HS2_, HS3_, HS4_, HS5_, HS6_⟩ (fun hHeld => ?_)
          clear hK K
          refine norm_ (a' := ?_) ?_ ?_
          rotate_left
          ·show Act.put _ (some 27) _ = _
           simp only [Act.put, qa, qb, qc, i64_w, i32_w]
           rfl
          refine one_ (i := 6) (N := some 28) #[o,o,o,o,o,o,o,z,z,z,o,z,z] rfl rfl (one_of HT_.out (by kernel_rfl)) (by decide) (fun K hK => ?_)
          refine gS Try.func47 #[.agg #[.int .i64 ((rd_T35 t453 x7_1).f0), .int .i64 ((rd_T35 t453 x7_1).f1.f0), .int .i64 ((rd_T35 t453 x7_1).f1.f1), .int .i64 ((rd_T35 t453 x7_1).f2), .int .i64 ((rd_T35 t453 x7_1).f3), .int .i64 ((rd_T35 t453 x7_1).f4), .bool ((rd_T35 t453 x7_1).f5)], .agg #[.int .i64 t462, .int .i64 t463]] ?_
          with_reducible refine (spec_NarrowGrant.calls k1 ((rd_T35 t453 x7_1).f0) ((rd_T35 t453 x7_1).f1.f0) ((rd_T35 t453 x7_1).f1.f1) ((rd_T35 t453 x7_1).f2) ((rd_T35 t453 x7_1).f3) ((rd_T35 t453 x7_1).f4) ((rd_T35 t453 x7_1).f5) t462 t463 t466 t467 t468 t469 t470 t471 t472 true _ A11.out).mono ?_
          rintro e w20 ⟨rfl, hb⟩
          have HS0_ := (hb.cell (Kf _ _ (hHeld.1))).trans (hHeld.1)
          have HS1_ := (hb.cell (Kf _ _ (hHeld.2.1))).trans (hHeld.2.1)
          have HS2_ := (hb.cell (Kf _ _ (hHeld.2.2.1))).trans (hHeld.2.2.1)
          have HS3_ := (hb.cell (Kf _ _ (hHeld.2.2.2.1))).trans (hHeld.2.2.2.1)
          have HS4_ := (hb.cell (Kf _ _ (hHeld.2.2.2.2.1))).trans (hHeld.2.2.2.2.1)
          have HS5_ := (hb.cell (Kf _ _ (hHeld.2.2.2.2.2.1))).trans (hHeld.2.2.2.2.2.1)
          have HS6_ := (hb.cell (Kf _ _ (hHeld.2.2.2.2.2.2))).trans (hHeld.2.2.2.2.2.2)
          refine ⟨_, rfl, ?_⟩
          have n0_ := am (Ko (rB HO_5.out) hb)
          have n1_ := am (Ko (rB HO_6.out) hb)
          have n2_ := am (IsS92.below (iT NB452_474.out HI452.out) hb)
          have n3_ := am (Kb (bB BK474.out) hb)
          have n4_ := am (Kh (by repeat (first | (with_reducible first | exact HB.out | apply Ky | apply Kj | apply Ks | refine Ki ?_ (IsS92.ge HI452.out) | refine Ki ?_ GE474.out) | exact HB.out)) hb)
          clear HO_5
          clear HO_6
          clear HI452
          clear BK474
          clear HB
          have HO_5 := n0_
          have HO_6 := n1_
          have HI452 := n2_
          have BK474 := n3_
          have HB := n4_
          clear n0_ n1_ n2_ n3_ n4_
          (try clear hb)
          (try clear hb2)
          (try clear hk)
          (try clear hi)
          refine hK.out _ _ ⟨HS0_, HS1_, HS2_, HS3_, HS4_, HS5_, HS6_⟩ (fun hHeld => ?_)
          clear hK K
          refine norm_ (a' := ?_) ?_ ?_
          rotate_left
          ·show Act.put _ (some 28) _ = _
           simp only [Act.put, qa, qb, qc, i64_w, i32_w]
           rfl
          refine pu 7 21 #[o,o,o,o,o,o,o,o,z,z,o,z,z] HT_ ?_
          refine pu 8 29 #[o,o,o,o,o,o,o,o,o,z,o,z,z] HT_ ?_
          refine pu 9 30 #[o,o,o,o,o,o,o,o,o,o,o,z,z] HT_ ?_
          exact norm_ (by simp only [putAll, Act.put, List.setIfInBounds_toArray, List.set_cons_zero, List.set_cons_succ]) (hCont (gb474) _ ⟨hHeld, (rB HO_5.out), (rB HO_6.out), (bB BK474.out), GW474.out, GE474.out, NB452_474.out, NB474_452.out, (iT NB452_474.out HI452.out), (by repeat (first | (with_reducible first | exact HB.out | apply Ky | apply Kj | apply Ks | refine Ki ?_ (IsS92.ge HI452.out) | refine Ki ?_ GE474.out) | exact HB.out))⟩)
        rintro gb474 w21 ⟨hS_, h0_, h1_, h2_, h3_, h4_, h5_, h6_, h7_, h8_⟩
        have n0_ : Aside0 (Kd.R k35 35 w21 w.heap.size (fun k_ => some k_ ≠ (u6 : Value).ownBlock ∧ k_ ≠ gb474) (.slice (some ad461) t453.length co16) t453) := ⟨h0_⟩
        have n1_ : Aside0 (Kd.R k35 35 w21 w.heap.size (fun k_ => some k_ ≠ (.slice (some ad461) t453.length co16 : Value).ownBlock ∧ k_ ≠ gb474) u6 x6_1) := ⟨h1_⟩
        have n2_ : Aside0 (w21.heap[gb474]? = some (.cells #[.int .i64 0, .int .i64 0, .int .i64 0, .int .i64 0, .int .i64 0, .int .i64 0, .bool false] 35 (0, 0))) := ⟨h2_⟩
        have n3_ : Aside0 (w.heap.size ≤ gb474) := ⟨h3_⟩
        have n4_ : Aside0 (w.heap.size ≤ gb474) := ⟨h4_⟩
        have n5_ : Aside0 (g452 ≠ gb474) := ⟨h5_⟩
        have n6_ : Aside0 (gb474 ≠ g452) := ⟨h6_⟩
        have n7_ : Aside0 (IsS92 w w21 g452 t449 t464 t465) := ⟨h7_⟩
        have n8_ : Aside0 (Below w.heap.size w w21) := ⟨h8_⟩
        clear HO_5
        clear HO_6
        clear HI452
        clear HB
        clear h0_ h1_ h2_ h3_ h4_ h5_ h6_ h7_ h8_
        have HO_5 := n0_
        have HO_6 := n1_
        have BK474 := n2_
        have GW474 := n3_
        have GE474 := n4_
        have NB452_474 := n5_
        have NB474_452 := n6_
        have HI452 := n7_
        have HB := n8_
        clear n0_ n1_ n2_ n3_ n4_ n5_ n6_ n7_ n8_
        have hHeld : w21.cell? (ad461.add ((x7_1).toNat * 7)) = some (.int .i64 ((rd_T35 t453 x7_1).f0)) ∧ w21.cell? ⟨(ad461.add ((x7_1).toNat * 7)).block, (ad461.add ((x7_1).toNat * 7)).off + 1, none⟩ = some (.int .i64 ((rd_T35 t453 x7_1).f1.f0)) ∧ w21.cell? ⟨(ad461.add ((x7_1).toNat * 7)).block, (ad461.add ((x7_1).toNat * 7)).off + 2, none⟩ = some (.int .i64 ((rd_T35 t453 x7_1).f1.f1)) ∧ w21.cell? ⟨(ad461.add ((x7_1).toNat * 7)).block, (ad461.add ((x7_1).toNat * 7)).off + 3, none⟩ = some (.int .i64 ((rd_T35 t453 x7_1).f2)) ∧ w21.cell? ⟨(ad461.add ((x7_1).toNat * 7)).block, (ad461.add ((x7_1).toNat * 7)).off + 4, none⟩ = some (.int .i64 ((rd_T35 t453 x7_1).f3)) ∧ w21.cell? ⟨(ad461.add ((x7_1).toNat * 7)).block, (ad461.add ((x7_1).toNat * 7)).off + 5, none⟩ = some (.int .i64 ((rd_T35 t453 x7_1).f4)) ∧ w21.cell? ⟨(ad461.add ((x7_1).toNat * 7)).block, (ad461.add ((x7_1).toNat * 7)).off + 6, none⟩ = some (.bool ((rd_T35 t453 x7_1).f5)) := hS_
        refine norm_ (a' := ?_) ?_ ?_
        rotate_left
        ·simp only [putAll, Act.put, List.setIfInBounds_toArray, List.set_cons_zero, List.set_cons_succ]
         rfl
        refine one_ (i := 11) (N := none) #[o,o,o,o,o,o,o,o,o,o,o,o,z] rfl rfl (one_of HT_.out (by kernel_rfl)) (by decide) (fun K hK => ?_)
        have hs22 : w21.cell? ⟨gb474, 0, none⟩ = some (.int .i64 0) := (Kk BK474.out 0).trans rfl
        have hfs22 := Kr BK474.out 0
        have hs23 : w21.cell? ⟨gb474, 1, none⟩ = some (.int .i64 0) := (Kk BK474.out 1).trans rfl
        have hfs23 := Kr BK474.out 1
        have hs24 : w21.cell? ⟨gb474, 2, none⟩ = some (.int .i64 0) := (Kk BK474.out 2).trans rfl
        have hfs24 := Kr BK474.out 2
        have hs25 : w21.cell? ⟨gb474, 3, none⟩ = some (.int .i64 0) := (Kk BK474.out 3).trans rfl
        have hfs25 := Kr BK474.out 3
        have hs26 : w21.cell? ⟨gb474, 4, none⟩ = some (.int .i64 0) := (Kk BK474.out 4).trans rfl
        have hfs26 := Kr BK474.out 4
        have hs27 : w21.cell? ⟨gb474, 5, none⟩ = some (.int .i64 0) := (Kk BK474.out 5).trans rfl
        have hfs27 := Kr BK474.out 5
        have hs28 : w21.cell? ⟨gb474, 6, none⟩ = some (.bool false) := (Kk BK474.out 6).trans rfl
        have hfs28 := Kr BK474.out 6
        refine skip_ (w1 := ?_) (by rfl) rfl ?_ ?_
        rotate_left
        ·go_simp
         rfl
        refine hK.out _ _ ⟨((Kn (p := ⟨gb474, _, none⟩) (by first | exact Ka (Kc HO_5.out (fun _ hk => hk.2)) | (rw [Ke]; exact Ka (Kc HO_5.out (fun _ hk => hk.2))) | (show (Addr.add _ _).block ≠ _; rw [Ke]; exact Ka (Kc HO_5.out (fun _ hk => hk.2))) | (dsimp only; exact Ka (Kc HO_5.out (fun _ hk => hk.2)))) _).trans (((Kn (p := ⟨gb474, _, none⟩) (by first | exact Ka (Kc HO_5.out (fun _ hk => hk.2)) | (rw [Ke]; exact Ka (Kc HO_5.out (fun _ hk => hk.2))) | (show (Addr.add _ _).block ≠ _; rw [Ke]; exact Ka (Kc HO_5.out (fun _ hk => hk.2))) | (dsimp only; exact Ka (Kc HO_5.out (fun _ hk => hk.2)))) _).trans (((Kn (p := ⟨gb474, _, none⟩) (by first | exact Ka (Kc HO_5.out (fun _ hk => hk.2)) | (rw [Ke]; exact Ka (Kc HO_5.out (fun _ hk => hk.2))) | (show (Addr.add _ _).block ≠ _; rw [Ke]; exact Ka (Kc HO_5.out (fun _ hk => hk.2))) | (dsimp only; exact Ka (Kc HO_5.out (fun _ hk => hk.2)))) _).trans (((Kn (p := ⟨gb474, _, none⟩) (by first | exact Ka (Kc HO_5.out (fun _ hk => hk.2)) | (rw [Ke]; exact Ka (Kc HO_5.out (fun _ hk => hk.2))) | (show (Addr.add _ _).block ≠ _; rw [Ke]; exact Ka (Kc HO_5.out (fun _ hk => hk.2))) | (dsimp only; exact Ka (Kc HO_5.out (fun _ hk => hk.2)))) _).trans (((Kn (p := ⟨gb474, _, none⟩) (by first | exact Ka (Kc HO_5.out (fun _ hk => hk.2)) | (rw [Ke]; exact Ka (Kc HO_5.out (fun _ hk => hk.2))) | (show (Addr.add _ _).block ≠ _; rw [Ke]; exact Ka (Kc HO_5.out (fun _ hk => hk.2))) | (dsimp only; exact Ka (Kc HO_5.out (fun _ hk => hk.2)))) _).trans (((Kn (p := ⟨gb474, _, none⟩) (by first | exact Ka (Kc HO_5.out (fun _ hk => hk.2)) | (rw [Ke]; exact Ka (Kc HO_5.out (fun _ hk => hk.2))) | (show (Addr.add _ _).block ≠ _; rw [Ke]; exact Ka (Kc HO_5.out (fun _ hk => hk.2))) | (dsimp only; exact Ka (Kc HO_5.out (fun _ hk => hk.2)))) _).trans (((Kn (p := ⟨gb474, _, none⟩) (by first | exact Ka (Kc HO_5.out (fun _ hk => hk.2)) | (rw [Ke]; exact Ka (Kc HO_5.out (fun _ hk => hk.2))) | (show (Addr.add _ _).block ≠ _; rw [Ke]; exact Ka (Kc HO_5.out (fun _ hk => hk.2))) | (dsimp only; exact Ka (Kc HO_5.out (fun _ hk => hk.2)))) _).trans (hHeld.1)))))))))))))), ((Kn (p := ⟨gb474, _, none⟩) (by first | exact Ka (Kc HO_5.out (fun _ hk => hk.2)) | (rw [Ke]; exact Ka (Kc HO_5.out (fun _ hk => hk.2))) | (show (Addr.add _ _).block ≠ _; rw [Ke]; exact Ka (Kc HO_5.out (fun _ hk => hk.2))) | (dsimp only; exact Ka (Kc HO_5.out (fun _ hk => hk.2)))) _).trans (((Kn (p := ⟨gb474, _, none⟩) (by first | exact Ka (Kc HO_5.out (fun _ hk => hk.2)) | (rw [Ke]; exact Ka (Kc HO_5.out (fun _ hk => hk.2))) | (show (Addr.add _ _).block ≠ _; rw [Ke]; exact Ka (Kc HO_5.out (fun _ hk => hk.2))) | (dsimp only; exact Ka (Kc HO_5.out (fun _ hk => hk.2)))) _).trans (((Kn (p := ⟨gb474, _, none⟩) (by first | exact Ka (Kc HO_5.out (fun _ hk => hk.2)) | (rw [Ke]; exact Ka (Kc HO_5.out (fun _ hk => hk.2))) | (show (Addr.add _ _).block ≠ _; rw [Ke]; exact Ka (Kc HO_5.out (fun _ hk => hk.2))) | (dsimp only; exact Ka (Kc HO_5.out (fun _ hk => hk.2)))) _).trans (((Kn (p := ⟨gb474, _, none⟩) (by first | exact Ka (Kc HO_5.out (fun _ hk => hk.2)) | (rw [Ke]; exact Ka (Kc HO_5.out (fun _ hk => hk.2))) | (show (Addr.add _ _).block ≠ _; rw [Ke]; exact Ka (Kc HO_5.out (fun _ hk => hk.2))) | (dsimp only; exact Ka (Kc HO_5.out (fun _ hk => hk.2)))) _).trans (((Kn (p := ⟨gb474, _, none⟩) (by first | exact Ka (Kc HO_5.out (fun _ hk => hk.2)) | (rw [Ke]; exact Ka (Kc HO_5.out (fun _ hk => hk.2))) | (show (Addr.add _ _).block ≠ _; rw [Ke]; exact Ka (Kc HO_5.out (fun _ hk => hk.2))) | (dsimp only; exact Ka (Kc HO_5.out (fun _ hk => hk.2)))) _).trans (((Kn (p := ⟨gb474, _, none⟩) (by first | exact Ka (Kc HO_5.out (fun _ hk => hk.2)) | (rw [Ke]; exact Ka (Kc HO_5.out (fun _ hk => hk.2))) | (show (Addr.add _ _).block ≠ _; rw [Ke]; exact Ka (Kc HO_5.out (fun _ hk => hk.2))) | (dsimp only; exact Ka (Kc HO_5.out (fun _ hk => hk.2)))) _).trans (((Kn (p := ⟨gb474, _, none⟩) (by first | exact Ka (Kc HO_5.out (fun _ hk => hk.2)) | (rw [Ke]; exact Ka (Kc HO_5.out (fun _ hk => hk.2))) | (show (Addr.add _ _).block ≠ _; rw [Ke]; exact Ka (Kc HO_5.out (fun _ hk => hk.2))) | (dsimp only; exact Ka (Kc HO_5.out (fun _ hk => hk.2)))) _).trans (hHeld.2.1)))))))))))))), ((Kn (p := ⟨gb474, _, none⟩) (by first | exact Ka (Kc HO_5.out (fun _ hk => hk.2)) | (rw [Ke]; exact Ka (Kc HO_5.out (fun _ hk => hk.2))) | (show (Addr.add _ _).block ≠ _; rw [Ke]; exact Ka (Kc HO_5.out (fun _ hk => hk.2))) | (dsimp only; exact Ka (Kc HO_5.out (fun _ hk => hk.2)))) _).trans (((Kn (p := ⟨gb474, _, none⟩) (by first | exact Ka (Kc HO_5.out (fun _ hk => hk.2)) | (rw [Ke]; exact Ka (Kc HO_5.out (fun _ hk => hk.2))) | (show (Addr.add _ _).block ≠ _; rw [Ke]; exact Ka (Kc HO_5.out (fun _ hk => hk.2))) | (dsimp only; exact Ka (Kc HO_5.out (fun _ hk => hk.2)))) _).trans (((Kn (p := ⟨gb474, _, none⟩) (by first | exact Ka (Kc HO_5.out (fun _ hk => hk.2)) | (rw [Ke]; exact Ka (Kc HO_5.out (fun _ hk => hk.2))) | (show (Addr.add _ _).block ≠ _; rw [Ke]; exact Ka (Kc HO_5.out (fun _ hk => hk.2))) | (dsimp only; exact Ka (Kc HO_5.out (fun _ hk => hk.2)))) _).trans (((Kn (p := ⟨gb474, _, none⟩) (by first | exact Ka (Kc HO_5.out (fun _ hk => hk.2)) | (rw [Ke]; exact Ka (Kc HO_5.out (fun _ hk => hk.2))) | (show (Addr.add _ _).block ≠ _; rw [Ke]; exact Ka (Kc HO_5.out (fun _ hk => hk.2))) | (dsimp only; exact Ka (Kc HO_5.out (fun _ hk => hk.2)))) _).trans (((Kn (p := ⟨gb474, _, none⟩) (by first | exact Ka (Kc HO_5.out (fun _ hk => hk.2)) | (rw [Ke]; exact Ka (Kc HO_5.out (fun _ hk => hk.2))) | (show (Addr.add _ _).block ≠ _; rw [Ke]; exact Ka (Kc HO_5.out (fun _ hk => hk.2))) | (dsimp only; exact Ka (Kc HO_5.out (fun _ hk => hk.2)))) _).trans (((Kn (p := ⟨gb474, _, none⟩) (by first | exact Ka (Kc HO_5.out (fun _ hk => hk.2)) | (rw [Ke]; exact Ka (Kc HO_5.out (fun _ hk => hk.2))) | (show (Addr.add _ _).block ≠ _; rw [Ke]; exact Ka (Kc HO_5.out (fun _ hk => hk.2))) | (dsimp only; exact Ka (Kc HO_5.out (fun _ hk => hk.2)))) _).trans (((Kn (p := ⟨gb474, _, none⟩) (by first | exact Ka (Kc HO_5.out (fun _ hk => hk.2)) | (rw [Ke]; exact Ka (Kc HO_5.out (fun _ hk => hk.2))) | (show (Addr.add _ _).block ≠ _; rw [Ke]; exact Ka (Kc HO_5.out (fun _ hk => hk.2))) | (dsimp only; exact Ka (Kc HO_5.out (fun _ hk => hk.2)))) _).trans (hHeld.2.2.1)))))))))))))), ((Kn (p := ⟨gb474, _, none⟩) (by first | exact Ka (Kc HO_5.out (fun _ hk => hk.2)) | (rw [Ke]; exact Ka (Kc HO_5.out (fun _ hk => hk.2))) | (show (Addr.add _ _).block ≠ _; rw [Ke]; exact Ka (Kc HO_5.out (fun _ hk => hk.2))) | (dsimp only; exact Ka (Kc HO_5.out (fun _ hk => hk.2)))) _).trans (((Kn (p := ⟨gb474, _, none⟩) (by first | exact Ka (Kc HO_5.out (fun _ hk => hk.2)) | (rw [Ke]; exact Ka (Kc HO_5.out (fun _ hk => hk.2))) | (show (Addr.add _ _).block ≠ _; rw [Ke]; exact Ka (Kc HO_5.out (fun _ hk => hk.2))) | (dsimp only; exact Ka (Kc HO_5.out (fun _ hk => hk.2)))) _).trans (((Kn (p := ⟨gb474, _, none⟩) (by first | exact Ka (Kc HO_5.out (fun _ hk => hk.2)) | (rw [Ke]; exact Ka (Kc HO_5.out (fun _ hk => hk.2))) | (show (Addr.add _ _).block ≠ _; rw [Ke]; exact Ka (Kc HO_5.out (fun _ hk => hk.2))) | (dsimp only; exact Ka (Kc HO_5.out (fun _ hk => hk.2)))) _).trans (((Kn (p := ⟨gb474, _, none⟩) (by first | exact Ka (Kc HO_5.out (fun _ hk => hk.2)) | (rw [Ke]; exact Ka (Kc HO_5.out (fun _ hk => hk.2))) | (show (Addr.add _ _).block ≠ _; rw [Ke]; exact Ka (Kc HO_5.out (fun _ hk => hk.2))) | (dsimp only; exact Ka (Kc HO_5.out (fun _ hk => hk.2)))) _).trans (((Kn (p := ⟨gb474, _, none⟩) (by first | exact Ka (Kc HO_5.out (fun _ hk => hk.2)) | (rw [Ke]; exact Ka (Kc HO_5.out (fun _ hk => hk.2))) | (show (Addr.add _ _).block ≠ _; rw [Ke]; exact Ka (Kc HO_5.out (fun _ hk => hk.2))) | (dsimp only; exact Ka (Kc HO_5.out (fun _ hk => hk.2)))) _).trans (((Kn (p := ⟨gb474, _, none⟩) (by first | exact Ka (Kc HO_5.out (fun _ hk => hk.2)) | (rw [Ke]; exact Ka (Kc HO_5.out (fun _ hk => hk.2))) | (show (Addr.add _ _).block ≠ _; rw [Ke]; exact Ka (Kc HO_5.out (fun _ hk => hk.2))) | (dsimp only; exact Ka (Kc HO_5.out (fun _ hk => hk.2)))) _).trans (((Kn (p := ⟨gb474, _, none⟩) (by first | exact Ka (Kc HO_5.out (fun _ hk => hk.2)) | (rw [Ke]; exact Ka (Kc HO_5.out (fun _ hk => hk.2))) | (show (Addr.add _ _).block ≠ _; rw [Ke]; exact Ka (Kc HO_5.out (fun _ hk => hk.2))) | (dsimp only; exact Ka (Kc HO_5.out (fun _ hk => hk.2)))) _).trans (hHeld.2.2.2.1)))))))))))))), ((Kn (p := ⟨gb474, _, none⟩) (by first | exact Ka (Kc HO_5.out (fun _ hk => hk.2)) | (rw [Ke]; exact Ka (Kc HO_5.out (fun _ hk => hk.2))) | (show (Addr.add _ _).block ≠ _; rw [Ke]; exact Ka (Kc HO_5.out (fun _ hk => hk.2))) | (dsimp only; exact Ka (Kc HO_5.out (fun _ hk => hk.2)))) _).trans (((Kn (p := ⟨gb474, _, none⟩) (by first | exact Ka (Kc HO_5.out (fun _ hk => hk.2)) | (rw [Ke]; exact Ka (Kc HO_5.out (fun _ hk => hk.2))) | (show (Addr.add _ _).block ≠ _; rw [Ke]; exact Ka (Kc HO_5.out (fun _ hk => hk.2))) | (dsimp only; exact Ka (Kc HO_5.out (fun _ hk => hk.2)))) _).trans (((Kn (p := ⟨gb474, _, none⟩) (by first | exact Ka (Kc HO_5.out (fun _ hk => hk.2)) | (rw [Ke]; exact Ka (Kc HO_5.out (fun _ hk => hk.2))) | (show (Addr.add _ _).block ≠ _; rw [Ke]; exact Ka (Kc HO_5.out (fun _ hk => hk.2))) | (dsimp only; exact Ka (Kc HO_5.out (fun _ hk => hk.2)))) _).trans (((Kn (p := ⟨gb474, _, none⟩) (by first | exact Ka (Kc HO_5.out (fun _ hk => hk.2)) | (rw [Ke]; exact Ka (Kc HO_5.out (fun _ hk => hk.2))) | (show (Addr.add _ _).block ≠ _; rw [Ke]; exact Ka (Kc HO_5.out (fun _ hk => hk.2))) | (dsimp only; exact Ka (Kc HO_5.out (fun _ hk => hk.2)))) _).trans (((Kn (p := ⟨gb474, _, none⟩) (by first | exact Ka (Kc HO_5.out (fun _ hk => hk.2)) | (rw [Ke]; exact Ka (Kc HO_5.out (fun _ hk => hk.2))) | (show (Addr.add _ _).block ≠ _; rw [Ke]; exact Ka (Kc HO_5.out (fun _ hk => hk.2))) | (dsimp only; exact Ka (Kc HO_5.out (fun _ hk => hk.2)))) _).trans (((Kn (p := ⟨gb474, _, none⟩) (by first | exact Ka (Kc HO_5.out (fun _ hk => hk.2)) | (rw [Ke]; exact Ka (Kc HO_5.out (fun _ hk => hk.2))) | (show (Addr.add _ _).block ≠ _; rw [Ke]; exact Ka (Kc HO_5.out (fun _ hk => hk.2))) | (dsimp only; exact Ka (Kc HO_5.out (fun _ hk => hk.2)))) _).trans (((Kn (p := ⟨gb474, _, none⟩) (by first | exact Ka (Kc HO_5.out (fun _ hk => hk.2)) | (rw [Ke]; exact Ka (Kc HO_5.out (fun _ hk => hk.2))) | (show (Addr.add _ _).block ≠ _; rw [Ke]; exact Ka (Kc HO_5.out (fun _ hk => hk.2))) | (dsimp only; exact Ka (Kc HO_5.out (fun _ hk => hk.2)))) _).trans (hHeld.2.2.2.2.1)))))))))))))), ((Kn (p := ⟨gb474, _, none⟩) (by first | exact Ka (Kc HO_5.out (fun _ hk => hk.2)) | (rw [Ke]; exact Ka (Kc HO_5.out (fun _ hk => hk.2))) | (show (Addr.add _ _).block ≠ _; rw [Ke]; exact Ka (Kc HO_5.out (fun _ hk => hk.2))) | (dsimp only; exact Ka (Kc HO_5.out (fun _ hk => hk.2)))) _).trans (((Kn (p := ⟨gb474, _, none⟩) (by first | exact Ka (Kc HO_5.out (fun _ hk => hk.2)) | (rw [Ke]; exact Ka (Kc HO_5.out (fun _ hk => hk.2))) | (show (Addr.add _ _).block ≠ _; rw [Ke]; exact Ka (Kc HO_5.out (fun _ hk => hk.2))) | (dsimp only; exact Ka (Kc HO_5.out (fun _ hk => hk.2)))) _).trans (((Kn (p := ⟨gb474, _, none⟩) (by first | exact Ka (Kc HO_5.out (fun _ hk => hk.2)) | (rw [Ke]; exact Ka (Kc HO_5.out (fun _ hk => hk.2))) | (show (Addr.add _ _).block ≠ _; rw [Ke]; exact Ka (Kc HO_5.out (fun _ hk => hk.2))) | (dsimp only; exact Ka (Kc HO_5.out (fun _ hk => hk.2)))) _).trans (((Kn (p := ⟨gb474, _, none⟩) (by first | exact Ka (Kc HO_5.out (fun _ hk => hk.2)) | (rw [Ke]; exact Ka (Kc HO_5.out (fun _ hk => hk.2))) | (show (Addr.add _ _).block ≠ _; rw [Ke]; exact Ka (Kc HO_5.out (fun _ hk => hk.2))) | (dsimp only; exact Ka (Kc HO_5.out (fun _ hk => hk.2)))) _).trans (((Kn (p := ⟨gb474, _, none⟩) (by first | exact Ka (Kc HO_5.out (fun _ hk => hk.2)) | (rw [Ke]; exact Ka (Kc HO_5.out (fun _ hk => hk.2))) | (show (Addr.add _ _).block ≠ _; rw [Ke]; exact Ka (Kc HO_5.out (fun _ hk => hk.2))) | (dsimp only; exact Ka (Kc HO_5.out (fun _ hk => hk.2)))) _).trans (((Kn (p := ⟨gb474, _, none⟩) (by first | exact Ka (Kc HO_5.out (fun _ hk => hk.2)) | (rw [Ke]; exact Ka (Kc HO_5.out (fun _ hk => hk.2))) | (show (Addr.add _ _).block ≠ _; rw [Ke]; exact Ka (Kc HO_5.out (fun _ hk => hk.2))) | (dsimp only; exact Ka (Kc HO_5.out (fun _ hk => hk.2)))) _).trans (((Kn (p := ⟨gb474, _, none⟩) (by first | exact Ka (Kc HO_5.out (fun _ hk => hk.2)) | (rw [Ke]; exact Ka (Kc HO_5.out (fun _ hk => hk.2))) | (show (Addr.add _ _).block ≠ _; rw [Ke]; exact Ka (Kc HO_5.out (fun _ hk => hk.2))) | (dsimp only; exact Ka (Kc HO_5.out (fun _ hk => hk.2)))) _).trans (hHeld.2.2.2.2.2.1)))))))))))))), ((Kn (p := ⟨gb474, _, none⟩) (by first | exact Ka (Kc HO_5.out (fun _ hk => hk.2)) | (rw [Ke]; exact Ka (Kc HO_5.out (fun _ hk => hk.2))) | (show (Addr.add _ _).block ≠ _; rw [Ke]; exact Ka (Kc HO_5.out (fun _ hk => hk.2))) | (dsimp only; exact Ka (Kc HO_5.out (fun _ hk => hk.2)))) _).trans (((Kn (p := ⟨gb474, _, none⟩) (by first | exact Ka (Kc HO_5.out (fun _ hk => hk.2)) | (rw [Ke]; exact Ka (Kc HO_5.out (fun _ hk => hk.2))) | (show (Addr.add _ _).block ≠ _; rw [Ke]; exact Ka (Kc HO_5.out (fun _ hk => hk.2))) | (dsimp only; exact Ka (Kc HO_5.out (fun _ hk => hk.2)))) _).trans (((Kn (p := ⟨gb474, _, none⟩) (by first | exact Ka (Kc HO_5.out (fun _ hk => hk.2)) | (rw [Ke]; exact Ka (Kc HO_5.out (fun _ hk => hk.2))) | (show (Addr.add _ _).block ≠ _; rw [Ke]; exact Ka (Kc HO_5.out (fun _ hk => hk.2))) | (dsimp only; exact Ka (Kc HO_5.out (fun _ hk => hk.2)))) _).trans (((Kn (p := ⟨gb474, _, none⟩) (by first | exact Ka (Kc HO_5.out (fun _ hk => hk.2)) | (rw [Ke]; exact Ka (Kc HO_5.out (fun _ hk => hk.2))) | (show (Addr.add _ _).block ≠ _; rw [Ke]; exact Ka (Kc HO_5.out (fun _ hk => hk.2))) | (dsimp only; exact Ka (Kc HO_5.out (fun _ hk => hk.2)))) _).trans (((Kn (p := ⟨gb474, _, none⟩) (by first | exact Ka (Kc HO_5.out (fun _ hk => hk.2)) | (rw [Ke]; exact Ka (Kc HO_5.out (fun _ hk => hk.2))) | (show (Addr.add _ _).block ≠ _; rw [Ke]; exact Ka (Kc HO_5.out (fun _ hk => hk.2))) | (dsimp only; exact Ka (Kc HO_5.out (fun _ hk => hk.2)))) _).trans (((Kn (p := ⟨gb474, _, none⟩) (by first | exact Ka (Kc HO_5.out (fun _ hk => hk.2)) | (rw [Ke]; exact Ka (Kc HO_5.out (fun _ hk => hk.2))) | (show (Addr.add _ _).block ≠ _; rw [Ke]; exact Ka (Kc HO_5.out (fun _ hk => hk.2))) | (dsimp only; exact Ka (Kc HO_5.out (fun _ hk => hk.2)))) _).trans (((Kn (p := ⟨gb474, _, none⟩) (by first | exact Ka (Kc HO_5.out (fun _ hk => hk.2)) | (rw [Ke]; exact Ka (Kc HO_5.out (fun _ hk => hk.2))) | (show (Addr.add _ _).block ≠ _; rw [Ke]; exact Ka (Kc HO_5.out (fun _ hk => hk.2))) | (dsimp only; exact Ka (Kc HO_5.out (fun _ hk => hk.2)))) _).trans (hHeld.2.2.2.2.2.2))))))))))))))⟩ (fun hHeld => ?_)
        clear hK K
        refine pu 12 9 #[o,o,o,o,o,o,o,o,o,o,o,o,o] HT_ ?_
        refine done_ (done_of HT_.out (by kernel_rfl)) ?_
        try go_wp2_with (first | (go_at_call 35; (with_reducible refine (spec_l1Once.calls g452 t449 t464 t465 2 true t476 t477 w _ ?side1 ?side2 A13.out).mono ?_); (case side1 => exact iT NB452_474.out HI452.out); (case side2 => repeat (first | (with_reducible first | exact HB.out | apply Ky | apply Kj | apply Ks | refine Ki ?_ (IsS92.ge HI452.out) | refine Ki ?_ GE474.out) | exact HB.out)); rintro e w29 ⟨rfl, hi, hb, hk⟩; replace HO_5 := am (Kt (Kd.R_keep (IsS92.apart (show IsS92 w _ g452 t449 t464 t465 from (iT NB452_474.out HI452.out)) (by (with_reducible repeat (first | apply Kd.R_alloc | apply Kd.R_drewN | apply Kd.R_drew)); exact (Kt (Kd.R_far (p := ⟨gb474, 6, none⟩) (Kd.R_far (p := ⟨gb474, 5, none⟩) (Kd.R_far (p := ⟨gb474, 4, none⟩) (Kd.R_far (p := ⟨gb474, 3, none⟩) (Kd.R_far (p := ⟨gb474, 2, none⟩) (Kd.R_far (p := ⟨gb474, 1, none⟩) (Kd.R_far (p := ⟨gb474, 0, none⟩) (Kt HO_5.out (fun k_ hk => (⟨hk, hk.2⟩ : _ ∧ k_ ≠ gb474))) (fun _ hk => hk.2) (.int .i64 t466)) (fun _ hk => hk.2) (.int .i64 t467)) (fun _ hk => hk.2) (.int .i64 t468)) (fun _ hk => hk.2) (.int .i64 t469)) (fun _ hk => hk.2) (.int .i64 t470)) (fun _ hk => hk.2) (.int .i64 t471)) (fun _ hk => hk.2) (.bool t472)) (fun _ h_ => h_.1))) (by decide)) hk (fun _ h => h.2)) (fun _ h => h.1)); replace HO_6 := am (Kt (Kd.R_keep (IsS92.apart (show IsS92 w _ g452 t449 t464 t465 from (iT NB452_474.out HI452.out)) (by (with_reducible repeat (first | apply Kd.R_alloc | apply Kd.R_drewN | apply Kd.R_drew)); exact (Kt (Kd.R_far (p := ⟨gb474, 6, none⟩) (Kd.R_far (p := ⟨gb474, 5, none⟩) (Kd.R_far (p := ⟨gb474, 4, none⟩) (Kd.R_far (p := ⟨gb474, 3, none⟩) (Kd.R_far (p := ⟨gb474, 2, none⟩) (Kd.R_far (p := ⟨gb474, 1, none⟩) (Kd.R_far (p := ⟨gb474, 0, none⟩) (Kt HO_6.out (fun k_ hk => (⟨hk, hk.2⟩ : _ ∧ k_ ≠ gb474))) (fun _ hk => hk.2) (.int .i64 t466)) (fun _ hk => hk.2) (.int .i64 t467)) (fun _ hk => hk.2) (.int .i64 t468)) (fun _ hk => hk.2) (.int .i64 t469)) (fun _ hk => hk.2) (.int .i64 t470)) (fun _ hk => hk.2) (.int .i64 t471)) (fun _ hk => hk.2) (.bool t472)) (fun _ h_ => h_.1))) (by decide)) hk (fun _ h => h.2)) (fun _ h => h.1)); replace BK474 := am (Kv hk (g' := gb474) (o := .cells #[.int .i64 t466, .int .i64 t467, .int .i64 t468, .int .i64 t469, .int .i64 t470, .int .i64 t471, .bool t472] 35 (0, 0)) (by refine bB ?_; refine Kg (cs := #[.int .i64 t466, .int .i64 t467, .int .i64 t468, .int .i64 t469, .int .i64 t470, .int .i64 t471, .bool false]) ?_ 6 _ rfl; refine bB ?_; refine Kg (cs := #[.int .i64 t466, .int .i64 t467, .int .i64 t468, .int .i64 t469, .int .i64 t470, .int .i64 0, .bool false]) ?_ 5 _ rfl; refine bB ?_; refine Kg (cs := #[.int .i64 t466, .int .i64 t467, .int .i64 t468, .int .i64 t469, .int .i64 0, .int .i64 0, .bool false]) ?_ 4 _ rfl; refine bB ?_; refine Kg (cs := #[.int .i64 t466, .int .i64 t467, .int .i64 t468, .int .i64 0, .int .i64 0, .int .i64 0, .bool false]) ?_ 3 _ rfl; refine bB ?_; refine Kg (cs := #[.int .i64 t466, .int .i64 t467, .int .i64 0, .int .i64 0, .int .i64 0, .int .i64 0, .bool false]) ?_ 2 _ rfl; refine bB ?_; refine Kg (cs := #[.int .i64 t466, .int .i64 0, .int .i64 0, .int .i64 0, .int .i64 0, .int .i64 0, .bool false]) ?_ 1 _ rfl; refine bB ?_; refine Kg (cs := #[.int .i64 0, .int .i64 0, .int .i64 0, .int .i64 0, .int .i64 0, .int .i64 0, .bool false]) ?_ 0 _ rfl; refine bB ?_; exact BK474.out) NB474_452.out (by simp)); replace HB := am (hb); replace HI452 := am (hi); (try clear hb); (try clear hk); (try clear hi); have hnb30 := NB474_452.out; have hnc30 := NB452_474.out; obtain ⟨hcz31_0, hcz31_1, hcz31_2, hcz31_3, hcz31_4, hcz31_5, hcz31_6, hfz31_0, hfz31_1, hfz31_2, hfz31_3, hfz31_4, hfz31_5, hfz31_6⟩ := blk7 BK474.out) | ((with_reducible refine gate_builtin (b := .append) (xs := #[.tmp 36, .tmp 38]) rfl ?_); at_builtin; refine Kd.R_append k35 (w0 := w) w.heap.size rfl (.tmp 36) (.tmp 38) 24 35 (.agg #[(.int .i64 0), (.int .i64 0), (.int .i64 0), (.int .i64 0), (.int .i64 0), (.int .i64 0), (.bool false)]) 56 rfl Try.underlying24 info35 rfl (by decide) (by omega) u6 x6_1 (⟨t466, (⟨t467, t468⟩ : S33), t469, t470, t471, t472⟩ : S35) [.int .i64 t466, .int .i64 t467, .int .i64 t468, .int .i64 t469, .int .i64 t470, .int .i64 t471, .bool t472] (fun k_ => some k_ ≠ (.slice (some ad461) t453.length co16 : Value).ownBlock ∧ k_ ≠ gb474) (fun _ => False) rfl rfl ?aP (fun _ hk => hk.elim) ?aF ?aO ?aB ?aS ?aL ?_; (case aP => exact k35_mkM _ _ _ (⟨t466, (⟨t467, t468⟩ : S33), t469, t470, t471, t472⟩ : S35)); (case aB => exact (by repeat (first | (with_reducible first | exact HB.out | apply Ky | apply Kj | apply Ks | refine Ki ?_ (IsS92.ge HI452.out) | refine Ki ?_ GE474.out) | exact HB.out))); (case aF => exact (fun k_ hk => ⟨Kd.fresh' (Kd.R_lt (rB HO_5.out)) k_ hk, Kd.freshB (bB BK474.out) k_ hk⟩)); (case aO => exact (rB HO_6.out)); (case aS => exact (below_size (by repeat (first | (with_reducible first | exact HB.out | apply Ky | apply Kj | apply Ks | refine Ki ?_ (IsS92.ge HI452.out) | refine Ki ?_ GE474.out) | exact HB.out)))); (case aL => have := LMc15.out; omega); intro v479 w32 ho hb hg hat; rw [← Ny478.out] at ho; have n0_ := am (Kd.R_after (ok := (fun k_ => k_ ≠ gb474)) (by (with_reducible repeat (first | apply Kd.R_alloc | apply Kd.R_drewN | apply Kd.R_drew)); exact Kt HO_5.out (fun _ hk => ⟨hk.2, hk.1⟩)) hg hat); have n1_ := am (IsS92.grown (iT NB452_474.out HI452.out) hg (IsS92.own_ne HI452.out HO_6.out (by decide))); have n2_ := am (blk_grown (bB BK474.out) hg (Kc HO_6.out (fun _ hk => hk.2))); have n3_ := am (hb); have n4_ := am (ho); clear HO_5; clear HI452; clear BK474; clear HB; clear HO_6; have HO_5 := n0_; have HI452 := n1_; have BK474 := n2_; have HB := n3_; have HO480 := n4_; clear n0_ n1_ n2_ n3_ n4_; clear ho hb hg hat))
        go_roundg k1
        case measure => have := HK1.out; omega
        case rel => exact ⟨(y478), (wrap64 (x7_1 + 1)), (t476), (t477), (by first | rfl | (simp; done) | (simp [*]; done)), H', ⟨by have := HK1.out; omega⟩, ⟨by (with_reducible repeat (first | apply Kd.R_alloc | apply Kd.R_drewN | apply Kd.R_drew)); exact Kt HO_5.out (fun _ hk => hk.2)⟩, ⟨by (with_reducible repeat (first | apply Kd.R_alloc | apply Kd.R_drewN | apply Kd.R_drew)); exact Kt HO480.out (fun _ hk => hk.1)⟩, ⟨(iT NB452_474.out HI452.out)⟩, ⟨by repeat (first | (with_reducible first | exact HB.out | apply Ky | apply Kj | apply Ks | refine Ki ?_ (IsS92.ge HI452.out) | refine Ki ?_ GE474.out) | exact HB.out)⟩⟩
       ·rw [if_neg c15] at H
        exact absurd H (by simp)
      ·replace c14 := bF c14
       subst c14
       replace H := hF H
       have H' := am H
       clear H
       obtain ⟨Ao33, co33, eo33⟩ := Kd.R_slice HO_5.out
       subst eo33
       try go_wp2
       replace HO_5 := am (Kd.R_drew HO_5.out)
       replace HO_6 := am (Kd.R_drew HO_6.out)
       replace HI452 := am (IsS92.drew HI452.out)
       replace HB := am (Ks HB.out)
       have p461 : 0 ≤ (x7_1 : Int) := Kp (by first | (with_reducible assumption) | assumption)
       have q461 : x7_1 < (t453.length : Int) := Kp (by first | (with_reducible assumption) | assumption)
       obtain ⟨ad461, e461, hx461_0, hx461_1, hx461_2, hx461_3, hx461_4, hx461_5, hx461_6⟩ := at_T35 (Kq HO_5.out).2.2 x7_1 p461 q461
       cases e461
       replace p461 := eq_true p461
       replace q461 := eq_true q461
       refine start_ (n := 13) (S := fun w' => w'.cell? (ad461.add ((x7_1).toNat * 7)) = some (.int .i64 ((rd_T35 t453 x7_1).f0)) ∧ w'.cell? ⟨(ad461.add ((x7_1).toNat * 7)).block, (ad461.add ((x7_1).toNat * 7)).off + 1, none⟩ = some (.int .i64 ((rd_T35 t453 x7_1).f1.f0)) ∧ w'.cell? ⟨(ad461.add ((x7_1).toNat * 7)).block, (ad461.add ((x7_1).toNat * 7)).off + 2, none⟩ = some (.int .i64 ((rd_T35 t453 x7_1).f1.f1)) ∧ w'.cell? ⟨(ad461.add ((x7_1).toNat * 7)).block, (ad461.add ((x7_1).toNat * 7)).off + 3, none⟩ = some (.int .i64 ((rd_T35 t453 x7_1).f2)) ∧ w'.cell? ⟨(ad461.add ((x7_1).toNat * 7)).block, (ad461.add ((x7_1).toNat * 7)).off + 4, none⟩ = some (.int .i64 ((rd_T35 t453 x7_1).f3)) ∧ w'.cell? ⟨(ad461.add ((x7_1).toNat * 7)).block, (ad461.add ((x7_1).toNat * 7)).off + 5, none⟩ = some (.int .i64 ((rd_T35 t453 x7_1).f4)) ∧ w'.cell? ⟨(ad461.add ((x7_1).toNat * 7)).block, (ad461.add ((x7_1).toNat * 7)).off + 6, none⟩ = some (.bool ((rd_T35 t453 x7_1).f5))) (ds := []) #[z,z,z,z,z,z,z,z,z,z,z,z,z] (by kernel_rfl) rfl rfl ⟨hx461_0, hx461_1, hx461_2, hx461_3, hx461_4, hx461_5, hx461_6⟩ (fun hHeld => ?_); refine with_tabW spec_DrawIsWithinGrants.tab7 spec_DrawIsWithinGrants.bits7 (fun HT_ HW_ => ?_)
       generalize wr.drew = w34 at HO_5 HO_6 HI452 HB hx461_0 hx461_1 hx461_2 hx461_3 hx461_4 hx461_5 hx461_6 hHeld ⊢
       refine pu 0 22 #[o,z,z,z,z,z,z,z,z,z,z,z,z] HT_ ?_
       refine pu 1 23 #[o,o,z,z,z,z,z,z,z,z,z,z,z] HT_ ?_
       refine pu 2 24 #[o,o,o,z,z,z,z,z,z,z,z,z,z] HT_ ?_
       refine pu 4 26 #[o,o,o,z,o,z,z,z,z,z,z,z,z] HT_ ?_
       refine take_ (i := 3) (N := some 25) (v := ?_) (a' := ?_) #[o,o,o,o,o,z,z,z,z,z,z,z,z] rfl rfl (take_ofW HT_.out HW_.out (by kernel_rfl)) (fun _ _ _ h => h) (Or.inl ⟨by rfl, ?_⟩) hHeld ?_ ?_
       rotate_left
       ·rintro w' ⟨s0, s1, s2, s3, s4, s5, s6⟩
        go_simp
        with_reducible rfl
       rotate_left
       ·simp only [Act.put, qa, qb, qc, i64_w, i32_w]
        rfl
       refine join_ (σ := Nat) 2 #[o,o,o,o,o,o,o,o,o,o,o,z,z] (fun s_ => [(27, .agg #[.int .i64 t462, .int .i64 t463]), (28, .tuple #[.agg #[.int .i64 t466, .int .i64 t467, .int .i64 t468, .int .i64 t469, .int .i64 t470, .int .i64 t471, .bool t472], .bool true]), (8, .pointer (some ⟨s_, 0, none⟩)), (21, .tuple #[.agg #[.int .i64 t466, .int .i64 t467, .int .i64 t468, .int .i64 t469, .int .i64 t470, .int .i64 t471, .bool t472], .bool true]), (29, .agg #[.int .i64 t466, .int .i64 t467, .int .i64 t468, .int .i64 t469, .int .i64 t470, .int .i64 t471, .bool t472]), (30, .bool true)]) (fun s_ w' => (w'.cell? (ad461.add ((x7_1).toNat * 7)) = some (.int .i64 ((rd_T35 t453 x7_1).f0)) ∧ w'.cell? ⟨(ad461.add ((x7_1).toNat * 7)).block, (ad461.add ((x7_1).toNat * 7)).off + 1, none⟩ = some (.int .i64 ((rd_T35 t453 x7_1).f1.f0)) ∧ w'.cell? ⟨(ad461.add ((x7_1).toNat * 7)).block, (ad461.add ((x7_1).toNat * 7)).off + 2, none⟩ = some (.int .i64 ((rd_T35 t453 x7_1).f1.f1)) ∧ w'.cell? ⟨(ad461.add ((x7_1).toNat * 7)).block, (ad461.add ((x7_1).toNat * 7)).off + 3, none⟩ = some (.int .i64 ((rd_T35 t453 x7_1).f2)) ∧ w'.cell? ⟨(ad461.add ((x7_1).toNat * 7)).block, (ad461.add ((x7_1).toNat * 7)).off + 4, none⟩ = some (.int .i64 ((rd_T35 t453 x7_1).f3)) ∧ w'.cell? ⟨(ad461.add ((x7_1).toNat * 7)).block, (ad461.add ((x7_1).toNat * 7)).off + 5, none⟩ = some (.int .i64 ((rd_T35 t453 x7_1).f4)) ∧ w'.cell? ⟨(ad461.add ((x7_1).toNat * 7)).block, (ad461.add ((x7_1).toNat * 7)).off + 6, none⟩ = some (.bool ((rd_T35 t453 x7_1).f5))) ∧ (Kd.R k35 35 w' w.heap.size (fun k_ => some k_ ≠ (u6 : Value).ownBlock ∧ k_ ≠ s_) (.slice (some ad461) t453.length co33) t453) ∧ (Kd.R k35 35 w' w.heap.size (fun k_ => some k_ ≠ (.slice (some ad461) t453.length co33 : Value).ownBlock ∧ k_ ≠ s_) u6 x6_1) ∧ (w'.heap[s_]? = some (.cells #[.int .i64 0, .int .i64 0, .int .i64 0, .int .i64 0, .int .i64 0, .int .i64 0, .bool false] 35 (0, 0))) ∧ (w.heap.size ≤ s_) ∧ (w.heap.size ≤ s_) ∧ (g452 ≠ s_) ∧ (s_ ≠ g452) ∧ (IsS92 w w' g452 t449 t464 t465) ∧ (Below w.heap.size w w')) ?_ ?_
       rotate_left
       ·intro hCont
        refine two_ (i := 5) (j := 10) (Ni := some 27) (Nj := some 8) #[o,o,o,o,o,o,z,z,z,z,z,z,z] #[o,o,o,o,o,z,z,z,z,z,o,z,z] rfl rfl rfl rfl (two_of HT_.out (by kernel_rfl)) (by decide) (by decide) (fun K hK => ?_) (fun K hK => ?_)
        ·skip
         refine gS Try.func48 #[.pointer (some ⟨g452, 0, none⟩)] ?_
         with_reducible refine (spec_l9Pattern.calls g452 t449 x453001_1 x453002_1 t462 t463 t464 t465 w _ ?side1 ?side2 A10.out).mono ?_
         (case side1 => exact iS HI452.out)
         (case side2 => exact sG (IsS92.ge HI452.out) HB.out)
         rintro e w35 ⟨rfl, hi, hb, hk⟩
         have HS0_ := keep_cell hk (hHeld.1) (by first | (rw [Ke]; exact Ka (IsS92.own_ne HI452.out HO_5.out (by decide))) | (show (Addr.add _ _).block ≠ _; rw [Ke]; exact Ka (IsS92.own_ne HI452.out HO_5.out (by decide))) | exact Ka (IsS92.own_ne HI452.out HO_5.out (by decide)))
         have HS1_ := keep_cell hk (hHeld.2.1) (by first | (rw [Ke]; exact Ka (IsS92.own_ne HI452.out HO_5.out (by decide))) | (show (Addr.add _ _).block ≠ _; rw [Ke]; exact Ka (IsS92.own_ne HI452.out HO_5.out (by decide))) | exact Ka (IsS92.own_ne HI452.out HO_5.out (by decide)))
         have HS2_ := keep_cell hk (hHeld.2.2.1) (by first | (rw [Ke]; exact Ka (IsS92.own_ne HI452.out HO_5.out (by decide))) | (show (Addr.add _ _).block ≠ _; rw [Ke]; exact Ka (IsS92.own_ne HI452.out HO_5.out (by decide))) | exact Ka (IsS92.own_ne HI452.out HO_5.out (by decide)))
         have HS3_ := keep_cell hk (hHeld.2.2.2.1) (by first | (rw [Ke]; exact Ka (IsS92.own_ne HI452.out HO_5.out (by decide))) | (show (Addr.add _ _).block ≠ _; rw [Ke]; exact Ka (IsS92.own_ne HI452.out HO_5.out (by decide))) | exact Ka (IsS92.own_ne HI452.out HO_5.out (by decide)))
         have HS4_ := keep_cell hk (hHeld.2.2.2.2.1) (by first | (rw [Ke]; exact Ka (IsS92.own_ne HI452.out HO_5.out (by decide))) | (show (Addr.add _ _).block ≠ _; rw [Ke]; exact Ka (IsS92.own_ne HI452.out HO_5.out (by decide))) | exact Ka (IsS92.own_ne HI452.out HO_5.out (by decide)))
         have HS5_ := keep_cell hk (hHeld.2.2.2.2.2.1) (by first | (rw [Ke]; exact Ka (IsS92.own_ne HI452.out HO_5.out (by decide))) | (show (Addr.add _ _).block ≠ _; rw [Ke]; exact Ka (IsS92.own_ne HI452.out HO_5.out (by decide))) | exact Ka (IsS92.own_ne HI452.out HO_5.out (by decide)))
         have HS6_ := keep_cell hk (hHeld.2.2.2.2.2.2) (by first | (rw [Ke]; exact Ka (IsS92.own_ne HI452.out HO_5.out (by decide))) | (show (Addr.add _ _).block ≠ _; rw [Ke]; exact Ka (IsS92.own_ne HI452.out HO_5.out (by decide))) | exact Ka (IsS92.own_ne HI452.out HO_5.out (by decide)))
         refine ⟨_, rfl, ?_⟩
         replace HO_5 := am (Kt (Kd.R_keep (IsS92.apart (show IsS92 w _ g452 t449 x453001_1 x453002_1 from (iS HI452.out)) (rB HO_5.out) (by decide)) hk (fun _ h => h.2)) (fun _ h => h.1))
         replace HO_6 := am (Kt (Kd.R_keep (IsS92.apart (show IsS92 w _ g452 t449 x453001_1 x453002_1 from (iS HI452.out)) (rB HO_6.out) (by decide)) hk (fun _ h => h.2)) (fun _ h => h.1))
         replace HB := am (hb)
         replace HI452 := am (hi)
         (try clear hb)
         (try clear hb2)
         (try clear hk)
         (try clear hi)
         refine hK.out _ _ ⟨HS0_, HS1_, HS2_, HS3_, HS4_, HS5_, HS6_⟩ (fun hHeld => ?_)
         clear hK K
         refine norm_ (a' := ?_) ?_ ?_
         rotate_left
         ·show Act.put _ (some 27) _ = _
          simp only [Act.put, qa, qb, qc, i64_w, i32_w]
          rfl
         refine two_ (i := 6) (j := 10) (Ni := some 28) (Nj := some 8) #[o,o,o,o,o,o,o,z,z,z,z,z,z] #[o,o,o,o,o,o,z,z,z,z,o,z,z] rfl rfl rfl rfl (two_of HT_.out (by kernel_rfl)) (by decide) (by decide) (fun K hK => ?_) (fun K hK => ?_)
         ·skip
          refine gS Try.func47 #[.agg #[.int .i64 ((rd_T35 t453 x7_1).f0), .int .i64 ((rd_T35 t453 x7_1).f1.f0), .int .i64 ((rd_T35 t453 x7_1).f1.f1), .int .i64 ((rd_T35 t453 x7_1).f2), .int .i64 ((rd_T35 t453 x7_1).f3), .int .i64 ((rd_T35 t453 x7_1).f4), .bool ((rd_T35 t453 x7_1).f5)], .agg #[.int .i64 t462, .int .i64 t463]] ?_
          with_reducible refine (spec_NarrowGrant.calls k1 ((rd_T35 t453 x7_1).f0) ((rd_T35 t453 x7_1).f1.f0) ((rd_T35 t453 x7_1).f1.f1) ((rd_T35 t453 x7_1).f2) ((rd_T35 t453 x7_1).f3) ((rd_T35 t453 x7_1).f4) ((rd_T35 t453 x7_1).f5) t462 t463 t466 t467 t468 t469 t470 t471 t472 true _ A11.out).mono ?_
          rintro e w36 ⟨rfl, hb⟩
          have HS0_ := (hb.cell (Kf _ _ (hHeld.1))).trans (hHeld.1)
          have HS1_ := (hb.cell (Kf _ _ (hHeld.2.1))).trans (hHeld.2.1)
          have HS2_ := (hb.cell (Kf _ _ (hHeld.2.2.1))).trans (hHeld.2.2.1)
          have HS3_ := (hb.cell (Kf _ _ (hHeld.2.2.2.1))).trans (hHeld.2.2.2.1)
          have HS4_ := (hb.cell (Kf _ _ (hHeld.2.2.2.2.1))).trans (hHeld.2.2.2.2.1)
          have HS5_ := (hb.cell (Kf _ _ (hHeld.2.2.2.2.2.1))).trans (hHeld.2.2.2.2.2.1)
          have HS6_ := (hb.cell (Kf _ _ (hHeld.2.2.2.2.2.2))).trans (hHeld.2.2.2.2.2.2)
          refine ⟨_, rfl, ?_⟩
          have n0_ := am (Ko (rB HO_5.out) hb)
          have n1_ := am (Ko (rB HO_6.out) hb)
          have n2_ := am (IsS92.below (iS HI452.out) hb)
          have n3_ := am (Kh (sG (IsS92.ge HI452.out) HB.out) hb)
          clear HO_5
          clear HO_6
          clear HI452
          clear HB
          have HO_5 := n0_
          have HO_6 := n1_
          have HI452 := n2_
          have HB := n3_
          clear n0_ n1_ n2_ n3_
          (try clear hb)
          (try clear hb2)
          (try clear hk)
          (try clear hi)
          refine hK.out _ _ ⟨HS0_, HS1_, HS2_, HS3_, HS4_, HS5_, HS6_⟩ (fun hHeld => ?_)
          clear hK K
          refine norm_ (a' := ?_) ?_ ?_
          rotate_left
          ·show Act.put _ (some 28) _ = _
           simp only [Act.put, qa, qb, qc, i64_w, i32_w]
           rfl
          refine pu 7 21 #[o,o,o,o,o,o,o,o,z,z,z,z,z] HT_ ?_
          refine pu 8 29 #[o,o,o,o,o,o,o,o,o,z,z,z,z] HT_ ?_
          refine pu 9 30 #[o,o,o,o,o,o,o,o,o,o,z,z,z] HT_ ?_
          refine one_ (i := 10) (N := some 8) #[o,o,o,o,o,o,o,o,o,o,o,z,z] rfl rfl (one_of HT_.out (by kernel_rfl)) (by decide) (fun K hK => ?_)
          refine box_step ?hg (N := 8) ?hd (cs := #[.int .i64 0, .int .i64 0, .int .i64 0, .int .i64 0, .int .i64 0, .int .i64 0, .bool false]) (t := 35) ?hr ?_; (case hd => rfl); (case hg => rfl); (case hr => first | (go_simp; done) | (go_simp; rfl))
          intro gb474 hg w37 hbox hb
          have HS0_ := (hb.cell (Kf _ _ (hHeld.1))).trans (hHeld.1)
          have HS1_ := (hb.cell (Kf _ _ (hHeld.2.1))).trans (hHeld.2.1)
          have HS2_ := (hb.cell (Kf _ _ (hHeld.2.2.1))).trans (hHeld.2.2.1)
          have HS3_ := (hb.cell (Kf _ _ (hHeld.2.2.2.1))).trans (hHeld.2.2.2.1)
          have HS4_ := (hb.cell (Kf _ _ (hHeld.2.2.2.2.1))).trans (hHeld.2.2.2.2.1)
          have HS5_ := (hb.cell (Kf _ _ (hHeld.2.2.2.2.2.1))).trans (hHeld.2.2.2.2.2.1)
          have HS6_ := (hb.cell (Kf _ _ (hHeld.2.2.2.2.2.2))).trans (hHeld.2.2.2.2.2.2)
          have n0_ := am (Ko (Kd.R_elderB (rB HO_5.out) gb474 (Nat.le_of_eq hg.symm)) hb)
          have n1_ := am (Ko (Kd.R_elderB (rB HO_6.out) gb474 (Nat.le_of_eq hg.symm)) hb)
          have n2_ := am (IsS92.below (iS HI452.out) hb)
          have n3_ := am (Kh (sG (IsS92.ge HI452.out) HB.out) hb)
          have n4_ := am (hbox)
          have n5_ := am ((by rw [hg]; exact (below_size (sG (IsS92.ge HI452.out) HB.out)) : w.heap.size ≤ gb474))
          have n6_ := am ((by rw [hg]; exact (below_size (sG (IsS92.ge HI452.out) HB.out)) : w.heap.size ≤ gb474))
          have n7_ := am ((by rw [hg]; exact Nat.ne_of_lt (IsS92.lt (show IsS92 w _ g452 t449 t464 t465 from (iS HI452.out))) : g452 ≠ gb474))
          have n8_ := am ((by rw [hg]; exact Nat.ne_of_gt (IsS92.lt (show IsS92 w _ g452 t449 t464 t465 from (iS HI452.out))) : gb474 ≠ g452))
          clear HO_5
          clear HO_6
          clear HI452
          clear HB
          have HO_5 := n0_
          have HO_6 := n1_
          have HI452 := n2_
          have HB := n3_
          have BK474 := n4_
          have GW474 := n5_
          have GE474 := n6_
          have NB452_474 := n7_
          have NB474_452 := n8_
          clear n0_ n1_ n2_ n3_ n4_ n5_ n6_ n7_ n8_
          clear hb hbox hg
          refine hK.out _ _ ⟨HS0_, HS1_, HS2_, HS3_, HS4_, HS5_, HS6_⟩ (fun hHeld => ?_)
          clear hK K
          refine norm_ (a' := ?_) ?_ ?_
          rotate_left
          ·show Act.put _ (some 8) _ = _
           simp only [Act.put, qa, qb, qc, i64_w, i32_w]
           rfl
          exact norm_ (by simp only [putAll, Act.put, List.setIfInBounds_toArray, List.set_cons_zero, List.set_cons_succ]) (hCont (gb474) _ ⟨hHeld, (rB HO_5.out), (rB HO_6.out), (bB BK474.out), GW474.out, GE474.out, NB452_474.out, NB474_452.out, (iT NB452_474.out HI452.out), (by repeat (first | (with_reducible first | exact HB.out | apply Ky | apply Kj | apply Ks | refine Ki ?_ (IsS92.ge HI452.out) | refine Ki ?_ GE474.out) | exact HB.out))⟩)
         ·skip
          refine box_step ?hg (N := 8) ?hd (cs := #[.int .i64 0, .int .i64 0, .int .i64 0, .int .i64 0, .int .i64 0, .int .i64 0, .bool false]) (t := 35) ?hr ?_; (case hd => rfl); (case hg => rfl); (case hr => first | (go_simp; done) | (go_simp; rfl))
          intro gb474 hg w36 hbox hb
          have HS0_ := (hb.cell (Kf _ _ (hHeld.1))).trans (hHeld.1)
          have HS1_ := (hb.cell (Kf _ _ (hHeld.2.1))).trans (hHeld.2.1)
          have HS2_ := (hb.cell (Kf _ _ (hHeld.2.2.1))).trans (hHeld.2.2.1)
          have HS3_ := (hb.cell (Kf _ _ (hHeld.2.2.2.1))).trans (hHeld.2.2.2.1)
          have HS4_ := (hb.cell (Kf _ _ (hHeld.2.2.2.2.1))).trans (hHeld.2.2.2.2.1)
          have HS5_ := (hb.cell (Kf _ _ (hHeld.2.2.2.2.2.1))).trans (hHeld.2.2.2.2.2.1)
          have HS6_ := (hb.cell (Kf _ _ (hHeld.2.2.2.2.2.2))).trans (hHeld.2.2.2.2.2.2)
          have n0_ := am (Ko (Kd.R_elderB (rB HO_5.out) gb474 (Nat.le_of_eq hg.symm)) hb)
          have n1_ := am (Ko (Kd.R_elderB (rB HO_6.out) gb474 (Nat.le_of_eq hg.symm)) hb)
          have n2_ := am (IsS92.below (iS HI452.out) hb)
          have n3_ := am (Kh (sG (IsS92.ge HI452.out) HB.out) hb)
          have n4_ := am (hbox)
          have n5_ := am ((by rw [hg]; exact (below_size (sG (IsS92.ge HI452.out) HB.out)) : w.heap.size ≤ gb474))
          have n6_ := am ((by rw [hg]; exact (below_size (sG (IsS92.ge HI452.out) HB.out)) : w.heap.size ≤ gb474))
          have n7_ := am ((by rw [hg]; exact Nat.ne_of_lt (IsS92.lt (show IsS92 w _ g452 t449 t464 t465 from (iS HI452.out))) : g452 ≠ gb474))
          have n8_ := am ((by rw [hg]; exact Nat.ne_of_gt (IsS92.lt (show IsS92 w _ g452 t449 t464 t465 from (iS HI452.out))) : gb474 ≠ g452))
          clear HO_5
          clear HO_6
          clear HI452
          clear HB
          have HO_5 := n0_
          have HO_6 := n1_
          have HI452 := n2_
          have HB := n3_
          have BK474 := n4_
          have GW474 := n5_
          have GE474 := n6_
          have NB452_474 := n7_
          have NB474_452 := n8_
          clear n0_ n1_ n2_ n3_ n4_ n5_ n6_ n7_ n8_
          clear hb hbox hg
          refine hK.out _ _ ⟨HS0_, HS1_, HS2_, HS3_, HS4_, HS5_, HS6_⟩ (fun hHeld => ?_)
          clear hK K
          refine norm_ (a' := ?_) ?_ ?_
          rotate_left
          ·show Act.put _ (some 8) _ = _
           simp only [Act.put, qa, qb, qc, i64_w, i32_w]
           rfl
          refine one_ (i := 6) (N := some 28) #[o,o,o,o,o,o,o,z,z,z,o,z,z] rfl rfl (one_of HT_.out (by kernel_rfl)) (by decide) (fun K hK => ?_)
          refine gS Try.func47 #[.agg #[.int .i64 ((rd_T35 t453 x7_1).f0), .int .i64 ((rd_T35 t453 x7_1).f1.f0), .int .i64 ((rd_T35 t453 x7_1).f1.f1), .int .i64 ((rd_T35 t453 x7_1).f2), .int .i64 ((rd_T35 t453 x7_1).f3), .int .i64 ((rd_T35 t453 x7_1).f4), .bool ((rd_T35 t453 x7_1).f5)], .agg #[.int .i64 t462, .int .i64 t463]] ?_
          with_reducible refine (spec_NarrowGrant.calls k1 ((rd_T35 t453 x7_1).f0) ((rd_T35 t453 x7_1).f1.f0) ((rd_T35 t453 x7_1).f1.f1) ((rd_T35 t453 x7_1).f2) ((rd_T35 t453 x7_1).f3) ((rd_T35 t453 x7_1).f4) ((rd_T35 t453 x7_1).f5) t462 t463 t466 t467 t468 t469 t470 t471 t472 true _ A11.out).mono ?_
          rintro e w37 ⟨rfl, hb⟩
          have HS0_ := (hb.cell (Kf _ _ (hHeld.1))).trans (hHeld.1)
          have HS1_ := (hb.cell (Kf _ _ (hHeld.2.1))).trans (hHeld.2.1)
          have HS2_ := (hb.cell (Kf _ _ (hHeld.2.2.1))).trans (hHeld.2.2.1)
          have HS3_ := (hb.cell (Kf _ _ (hHeld.2.2.2.1))).trans (hHeld.2.2.2.1)
          have HS4_ := (hb.cell (Kf _ _ (hHeld.2.2.2.2.1))).trans (hHeld.2.2.2.2.1)
          have HS5_ := (hb.cell (Kf _ _ (hHeld.2.2.2.2.2.1))).trans (hHeld.2.2.2.2.2.1)
          have HS6_ := (hb.cell (Kf _ _ (hHeld.2.2.2.2.2.2))).trans (hHeld.2.2.2.2.2.2)
          refine ⟨_, rfl, ?_⟩
          have n0_ := am (Ko (rB HO_5.out) hb)
          have n1_ := am (Ko (rB HO_6.out) hb)
          have n2_ := am (IsS92.below (iT NB452_474.out HI452.out) hb)
          have n3_ := am (Kb (bB BK474.out) hb)
          have n4_ := am (Kh (by repeat (first | (with_reducible first | exact HB.out | apply Ky | apply Kj | apply Ks | refine Ki ?_ (IsS92.ge HI452.out) | refine Ki ?_ GE474.out) | exact HB.out)) hb)
          clear HO_5
          clear HO_6
          clear HI452
          clear BK474
          clear HB
          have HO_5 := n0_
          have HO_6 := n1_
          have HI452 := n2_
          have BK474 := n3_
          have HB := n4_
          clear n0_ n1_ n2_ n3_ n4_
          (try clear hb)
          (try clear hb2)
          (try clear hk)
          (try clear hi)
          refine hK.out _ _ ⟨HS0_, HS1_, HS2_, HS3_, HS4_, HS5_, HS6_⟩ (fun hHeld => ?_)
          clear hK K
          refine norm_ (a' := ?_) ?_ ?_
          rotate_left
          ·show Act.put _ (some 28) _ = _
           simp only [Act.put, qa, qb, qc, i64_w, i32_w]
           rfl
          refine pu 7 21 #[o,o,o,o,o,o,o,o,z,z,o,z,z] HT_ ?_
          refine pu 8 29 #[o,o,o,o,o,o,o,o,o,z,o,z,z] HT_ ?_
          refine pu 9 30 #[o,o,o,o,o,o,o,o,o,o,o,z,z] HT_ ?_
          exact norm_ (by simp only [putAll, Act.put, List.setIfInBounds_toArray, List.set_cons_zero, List.set_cons_succ]) (hCont (gb474) _ ⟨hHeld, (rB HO_5.out), (rB HO_6.out), (bB BK474.out), GW474.out, GE474.out, NB452_474.out, NB474_452.out, (iT NB452_474.out HI452.out), (by repeat (first | (with_reducible first | exact HB.out | apply Ky | apply Kj | apply Ks | refine Ki ?_ (IsS92.ge HI452.out) | refine Ki ?_ GE474.out) | exact HB.out))⟩)
        ·skip
         refine box_step ?hg (N := 8) ?hd (cs := #[.int .i64 0, .int .i64 0, .int .i64 0, .int .i64 0, .int .i64 0, .int .i64 0, .bool false]) (t := 35) ?hr ?_; (case hd => rfl); (case hg => rfl); (case hr => first | (go_simp; done) | (go_simp; rfl))
         intro gb474 hg w35 hbox hb
         have HS0_ := (hb.cell (Kf _ _ (hHeld.1))).trans (hHeld.1)
         have HS1_ := (hb.cell (Kf _ _ (hHeld.2.1))).trans (hHeld.2.1)
         have HS2_ := (hb.cell (Kf _ _ (hHeld.2.2.1))).trans (hHeld.2.2.1)
         have HS3_ := (hb.cell (Kf _ _ (hHeld.2.2.2.1))).trans (hHeld.2.2.2.1)
         have HS4_ := (hb.cell (Kf _ _ (hHeld.2.2.2.2.1))).trans (hHeld.2.2.2.2.1)
         have HS5_ := (hb.cell (Kf _ _ (hHeld.2.2.2.2.2.1))).trans (hHeld.2.2.2.2.2.1)
         have HS6_ := (hb.cell (Kf _ _ (hHeld.2.2.2.2.2.2))).trans (hHeld.2.2.2.2.2.2)
         have n0_ := am (Ko (Kd.R_elderB (rB HO_5.out) gb474 (Nat.le_of_eq hg.symm)) hb)
         have n1_ := am (Ko (Kd.R_elderB (rB HO_6.out) gb474 (Nat.le_of_eq hg.symm)) hb)
         have n2_ := am (IsS92.below (iS HI452.out) hb)
         have n3_ := am (Kh (sG (IsS92.ge HI452.out) HB.out) hb)
         have n4_ := am (hbox)
         have n5_ := am ((by rw [hg]; exact (below_size (sG (IsS92.ge HI452.out) HB.out)) : w.heap.size ≤ gb474))
         have n6_ := am ((by rw [hg]; exact (below_size (sG (IsS92.ge HI452.out) HB.out)) : w.heap.size ≤ gb474))
         have n7_ := am ((by rw [hg]; exact Nat.ne_of_lt (IsS92.lt (show IsS92 w _ g452 t449 x453001_1 x453002_1 from (iS HI452.out))) : g452 ≠ gb474))
         have n8_ := am ((by rw [hg]; exact Nat.ne_of_gt (IsS92.lt (show IsS92 w _ g452 t449 x453001_1 x453002_1 from (iS HI452.out))) : gb474 ≠ g452))
         clear HO_5
         clear HO_6
         clear HI452
         clear HB
         have HO_5 := n0_
         have HO_6 := n1_
         have HI452 := n2_
         have HB := n3_
         have BK474 := n4_
         have GW474 := n5_
         have GE474 := n6_
         have NB452_474 := n7_
         have NB474_452 := n8_
         clear n0_ n1_ n2_ n3_ n4_ n5_ n6_ n7_ n8_
         clear hb hbox hg
         refine hK.out _ _ ⟨HS0_, HS1_, HS2_, HS3_, HS4_, HS5_, HS6_⟩ (fun hHeld => ?_)
         clear hK K
         refine norm_ (a' := ?_) ?_ ?_
         rotate_left
         ·show Act.put _ (some 8) _ = _
          simp only [Act.put, qa, qb, qc, i64_w, i32_w]
          rfl
         refine one_ (i := 5) (N := some 27) #[o,o,o,o,o,o,z,z,z,z,o,z,z] rfl rfl (one_of HT_.out (by kernel_rfl)) (by decide) (fun K hK => ?_)
         refine gS Try.func48 #[.pointer (some ⟨g452, 0, none⟩)] ?_
         with_reducible refine (spec_l9Pattern.calls g452 t449 x453001_1 x453002_1 t462 t463 t464 t465 w _ ?side1 ?side2 A10.out).mono ?_
         (case side1 => exact iT NB452_474.out HI452.out)
         (case side2 => repeat (first | (with_reducible first | exact HB.out | apply Ky | apply Kj | apply Ks | refine Ki ?_ (IsS92.ge HI452.out) | refine Ki ?_ GE474.out) | exact HB.out))
         rintro e w36 ⟨rfl, hi, hb, hk⟩
         have HS0_ := keep_cell hk (hHeld.1) (by first | (rw [Ke]; exact Ka (IsS92.own_ne HI452.out HO_5.out (by decide))) | (show (Addr.add _ _).block ≠ _; rw [Ke]; exact Ka (IsS92.own_ne HI452.out HO_5.out (by decide))) | exact Ka (IsS92.own_ne HI452.out HO_5.out (by decide)))
         have HS1_ := keep_cell hk (hHeld.2.1) (by first | (rw [Ke]; exact Ka (IsS92.own_ne HI452.out HO_5.out (by decide))) | (show (Addr.add _ _).block ≠ _; rw [Ke]; exact Ka (IsS92.own_ne HI452.out HO_5.out (by decide))) | exact Ka (IsS92.own_ne HI452.out HO_5.out (by decide)))
         have HS2_ := keep_cell hk (hHeld.2.2.1) (by first | (rw [Ke]; exact Ka (IsS92.own_ne HI452.out HO_5.out (by decide))) | (show (Addr.add _ _).block ≠ _; rw [Ke]; exact Ka (IsS92.own_ne HI452.out HO_5.out (by decide))) | exact Ka (IsS92.own_ne HI452.out HO_5.out (by decide)))
         have HS3_ := keep_cell hk (hHeld.2.2.2.1) (by first | (rw [Ke]; exact Ka (IsS92.own_ne HI452.out HO_5.out (by decide))) | (show (Addr.add _ _).block ≠ _; rw [Ke]; exact Ka (IsS92.own_ne HI452.out HO_5.out (by decide))) | exact Ka (IsS92.own_ne HI452.out HO_5.out (by decide)))
         have HS4_ := keep_cell hk (hHeld.2.2.2.2.1) (by first | (rw [Ke]; exact Ka (IsS92.own_ne HI452.out HO_5.out (by decide))) | (show (Addr.add _ _).block ≠ _; rw [Ke]; exact Ka (IsS92.own_ne HI452.out HO_5.out (by decide))) | exact Ka (IsS92.own_ne HI452.out HO_5.out (by decide)))
         have HS5_ := keep_cell hk (hHeld.2.2.2.2.2.1) (by first | (rw [Ke]; exact Ka (IsS92.own_ne HI452.out HO_5.out (by decide))) | (show (Addr.add _ _).block ≠ _; rw [Ke]; exact Ka (IsS92.own_ne HI452.out HO_5.out (by decide))) | exact Ka (IsS92.own_ne HI452.out HO_5.out (by decide)))
         have HS6_ := keep_cell hk (hHeld.2.2.2.2.2.2) (by first | (rw [Ke]; exact Ka (IsS92.own_ne HI452.out HO_5.out (by decide))) | (show (Addr.add _ _).block ≠ _; rw [Ke]; exact Ka (IsS92.own_ne HI452.out HO_5.out (by decide))) | exact Ka (IsS92.own_ne HI452.out HO_5.out (by decide)))
         refine ⟨_, rfl, ?_⟩
         replace HO_5 := am (Kt (Kd.R_keep (IsS92.apart (show IsS92 w _ g452 t449 x453001_1 x453002_1 from (iT NB452_474.out HI452.out)) (rB HO_5.out) (by decide)) hk (fun _ h => h.2)) (fun _ h => h.1))
         replace HO_6 := am (Kt (Kd.R_keep (IsS92.apart (show IsS92 w _ g452 t449 x453001_1 x453002_1 from (iT NB452_474.out HI452.out)) (rB HO_6.out) (by decide)) hk (fun _ h => h.2)) (fun _ h => h.1))
         replace BK474 := am (Kv hk (bB BK474.out) NB474_452.out (by simp))
         replace HB := am (hb)
         replace HI452 := am (hi)
         (try clear hb)
         (try clear hb2)
         (try clear hk)
         (try clear hi)
         refine hK.out _ _ ⟨HS0_, HS1_, HS2_, HS3_, HS4_, HS5_, HS6_⟩ (fun hHeld => ?_)
         clear hK K
         refine norm_ (a' := ?_) ?_ ?_
         rotate_left
         ·show Act.put _ (some 27) _ = _
          simp only [Act.put, qa, qb, qc, i64_w, i32_w]
          rfl
         refine one_ (i := 6) (N := some 28) #[o,o,o,o,o,o,o,z,z,z,o,z,z] rfl rfl (one_of HT_.out (by kernel_rfl)) (by decide) (fun K hK => ?_)
         refine gS Try.func47 #[.agg #[.int .i64 ((rd_T35 t453 x7_1).f0), .int .i64 ((rd_T35 t453 x7_1).f1.f0), .int .i64 ((rd_T35 t453 x7_1).f1.f1), .int .i64 ((rd_T35 t453 x7_1).f2), .int .i64 ((rd_T35 t453 x7_1).f3), .int .i64 ((rd_T35 t453 x7_1).f4), .bool ((rd_T35 t453 x7_1).f5)], .agg #[.int .i64 t462, .int .i64 t463]] ?_
         with_reducible refine (spec_NarrowGrant.calls k1 ((rd_T35 t453 x7_1).f0) ((rd_T35 t453 x7_1).f1.f0) ((rd_T35 t453 x7_1).f1.f1) ((rd_T35 t453 x7_1).f2) ((rd_T35 t453 x7_1).f3) ((rd_T35 t453 x7_1).f4) ((rd_T35 t453 x7_1).f5) t462 t463 t466 t467 t468 t469 t470 t471 t472 true _ A11.out).mono ?_
         rintro e w37 ⟨rfl, hb⟩
         have HS0_ := (hb.cell (Kf _ _ (hHeld.1))).trans (hHeld.1)
         have HS1_ := (hb.cell (Kf _ _ (hHeld.2.1))).trans (hHeld.2.1)
         have HS2_ := (hb.cell (Kf _ _ (hHeld.2.2.1))).trans (hHeld.2.2.1)
         have HS3_ := (hb.cell (Kf _ _ (hHeld.2.2.2.1))).trans (hHeld.2.2.2.1)
         have HS4_ := (hb.cell (Kf _ _ (hHeld.2.2.2.2.1))).trans (hHeld.2.2.2.2.1)
         have HS5_ := (hb.cell (Kf _ _ (hHeld.2.2.2.2.2.1))).trans (hHeld.2.2.2.2.2.1)
         have HS6_ := (hb.cell (Kf _ _ (hHeld.2.2.2.2.2.2))).trans (hHeld.2.2.2.2.2.2)
         refine ⟨_, rfl, ?_⟩
         have n0_ := am (Ko (rB HO_5.out) hb)
         have n1_ := am (Ko (rB HO_6.out) hb)
         have n2_ := am (IsS92.below (iT NB452_474.out HI452.out) hb)
         have n3_ := am (Kb (bB BK474.out) hb)
         have n4_ := am (Kh (by repeat (first | (with_reducible first | exact HB.out | apply Ky | apply Kj | apply Ks | refine Ki ?_ (IsS92.ge HI452.out) | refine Ki ?_ GE474.out) | exact HB.out)) hb)
         clear HO_5
         clear HO_6
         clear HI452
         clear BK474
         clear HB
         have HO_5 := n0_
         have HO_6 := n1_
         have HI452 := n2_
         have BK474 := n3_
         have HB := n4_
         clear n0_ n1_ n2_ n3_ n4_
         (try clear hb)
         (try clear hb2)
         (try clear hk)
         (try clear hi)
         refine hK.out _ _ ⟨HS0_, HS1_, HS2_, HS3_, HS4_, HS5_, HS6_⟩ (fun hHeld => ?_)
         clear hK K
         refine norm_ (a' := ?_) ?_ ?_
         rotate_left
         ·show Act.put _ (some 28) _ = _
          simp only [Act.put, qa, qb, qc, i64_w, i32_w]
          rfl
         refine pu 7 21 #[o,o,o,o,o,o,o,o,z,z,o,z,z] HT_ ?_
         refine pu 8 29 #[o,o,o,o,o,o,o,o,o,z,o,z,z] HT_ ?_
         refine pu 9 30 #[o,o,o,o,o,o,o,o,o,o,o,z,z] HT_ ?_
         exact norm_ (by simp only [putAll, Act.put, List.setIfInBounds_toArray, List.set_cons_zero, List.set_cons_succ]) (hCont (gb474) _ ⟨hHeld, (rB HO_5.out), (rB HO_6.out), (bB BK474.out), GW474.out, GE474.out, NB452_474.out, NB474_452.out, (iT NB452_474.out HI452.out), (by repeat (first | (with_reducible first | exact HB.out | apply Ky | apply Kj | apply Ks | refine Ki ?_ (IsS92.ge HI452.out) | refine Ki ?_ GE474.out) | exact HB.out))⟩)
       rintro gb474 w38 ⟨hS_, h0_, h1_, h2_, h3_, h4_, h5_, h6_, h7_, h8_⟩
       have n0_ : Aside0 (Kd.R k35 35 w38 w.heap.size (fun k_ => some k_ ≠ (u6 : Value).ownBlock ∧ k_ ≠ gb474) (.slice (some ad461) t453.length co33) t453) := ⟨h0_⟩
       have n1_ : Aside0 (Kd.R k35 35 w38 w.heap.size (fun k_ => some k_ ≠ (.slice (some ad461) t453.length co33 : Value).ownBlock ∧ k_ ≠ gb474) u6 x6_1) := ⟨h1_⟩
       have n2_ : Aside0 (w38.heap[gb474]? = some (.cells #[.int .i64 0, .int .i64 0, .int .i64 0, .int .i64 0, .int .i64 0, .int .i64 0, .bool false] 35 (0, 0))) := ⟨h2_⟩
       have n3_ : Aside0 (w.heap.size ≤ gb474) := ⟨h3_⟩
       have n4_ : Aside0 (w.heap.size ≤ gb474) := ⟨h4_⟩
       have n5_ : Aside0 (g452 ≠ gb474) := ⟨h5_⟩
       have n6_ : Aside0 (gb474 ≠ g452) := ⟨h6_⟩
       have n7_ : Aside0 (IsS92 w w38 g452 t449 t464 t465) := ⟨h7_⟩
       have n8_ : Aside0 (Below w.heap.size w w38) := ⟨h8_⟩
       clear HO_5
       clear HO_6
       clear HI452
       clear HB
       clear h0_ h1_ h2_ h3_ h4_ h5_ h6_ h7_ h8_
       have HO_5 := n0_
       have HO_6 := n1_
       have BK474 := n2_
       have GW474 := n3_
       have GE474 := n4_
       have NB452_474 := n5_
       have NB474_452 := n6_
       have HI452 := n7_
       have HB := n8_
       clear n0_ n1_ n2_ n3_ n4_ n5_ n6_ n7_ n8_
       have hHeld : w38.cell? (ad461.add ((x7_1).toNat * 7)) = some (.int .i64 ((rd_T35 t453 x7_1).f0)) ∧ w38.cell? ⟨(ad461.add ((x7_1).toNat * 7)).block, (ad461.add ((x7_1).toNat * 7)).off + 1, none⟩ = some (.int .i64 ((rd_T35 t453 x7_1).f1.f0)) ∧ w38.cell? ⟨(ad461.add ((x7_1).toNat * 7)).block, (ad461.add ((x7_1).toNat * 7)).off + 2, none⟩ = some (.int .i64 ((rd_T35 t453 x7_1).f1.f1)) ∧ w38.cell? ⟨(ad461.add ((x7_1).toNat * 7)).block, (ad461.add ((x7_1).toNat * 7)).off + 3, none⟩ = some (.int .i64 ((rd_T35 t453 x7_1).f2)) ∧ w38.cell? ⟨(ad461.add ((x7_1).toNat * 7)).block, (ad461.add ((x7_1).toNat * 7)).off + 4, none⟩ = some (.int .i64 ((rd_T35 t453 x7_1).f3)) ∧ w38.cell? ⟨(ad461.add ((x7_1).toNat * 7)).block, (ad461.add ((x7_1).toNat * 7)).off + 5, none⟩ = some (.int .i64 ((rd_T35 t453 x7_1).f4)) ∧ w38.cell? ⟨(ad461.add ((x7_1).toNat * 7)).block, (ad461.add ((x7_1).toNat * 7)).off + 6, none⟩ = some (.bool ((rd_T35 t453 x7_1).f5)) := hS_
       refine norm_ (a' := ?_) ?_ ?_
       rotate_left
       ·simp only [putAll, Act.put, List.setIfInBounds_toArray, List.set_cons_zero, List.set_cons_succ]
        rfl
       refine one_ (i := 11) (N := none) #[o,o,o,o,o,o,o,o,o,o,o,o,z] rfl rfl (one_of HT_.out (by kernel_rfl)) (by decide) (fun K hK => ?_)
       have hs39 : w38.cell? ⟨gb474, 0, none⟩ = some (.int .i64 0) := (Kk BK474.out 0).trans rfl
       have hfs39 := Kr BK474.out 0
       have hs40 : w38.cell? ⟨gb474, 1, none⟩ = some (.int .i64 0) := (Kk BK474.out 1).trans rfl
       have hfs40 := Kr BK474.out 1
       have hs41 : w38.cell? ⟨gb474, 2, none⟩ = some (.int .i64 0) := (Kk BK474.out 2).trans rfl
       have hfs41 := Kr BK474.out 2
       have hs42 : w38.cell? ⟨gb474, 3, none⟩ = some (.int .i64 0) := (Kk BK474.out 3).trans rfl
       have hfs42 := Kr BK474.out 3
       have hs43 : w38.cell? ⟨gb474, 4, none⟩ = some (.int .i64 0) := (Kk BK474.out 4).trans rfl
       have hfs43 := Kr BK474.out 4
       have hs44 : w38.cell? ⟨gb474, 5, none⟩ = some (.int .i64 0) := (Kk BK474.out 5).trans rfl
       have hfs44 := Kr BK474.out 5
       have hs45 : w38.cell? ⟨gb474, 6, none⟩ = some (.bool false) := (Kk BK474.out 6).trans rfl
       have hfs45 := Kr BK474.out 6
       refine skip_ (w1 := ?_) (by rfl) rfl ?_ ?_
       rotate_left
       ·go_simp
        rfl
       refine hK.out _ _ ⟨((Kn (p := ⟨gb474, _, none⟩) (by first | exact Ka (Kc HO_5.out (fun _ hk => hk.2)) | (rw [Ke]; exact Ka (Kc HO_5.out (fun _ hk => hk.2))) | (show (Addr.add _ _).block ≠ _; rw [Ke]; exact Ka (Kc HO_5.out (fun _ hk => hk.2))) | (dsimp only; exact Ka (Kc HO_5.out (fun _ hk => hk.2)))) _).trans (((Kn (p := ⟨gb474, _, none⟩) (by first | exact Ka (Kc HO_5.out (fun _ hk => hk.2)) | (rw [Ke]; exact Ka (Kc HO_5.out (fun _ hk => hk.2))) | (show (Addr.add _ _).block ≠ _; rw [Ke]; exact Ka (Kc HO_5.out (fun _ hk => hk.2))) | (dsimp only; exact Ka (Kc HO_5.out (fun _ hk => hk.2)))) _).trans (((Kn (p := ⟨gb474, _, none⟩) (by first | exact Ka (Kc HO_5.out (fun _ hk => hk.2)) | (rw [Ke]; exact Ka (Kc HO_5.out (fun _ hk => hk.2))) | (show (Addr.add _ _).block ≠ _; rw [Ke]; exact Ka (Kc HO_5.out (fun _ hk => hk.2))) | (dsimp only; exact Ka (Kc HO_5.out (fun _ hk => hk.2)))) _).trans (((Kn (p := ⟨gb474, _, none⟩) (by first | exact Ka (Kc HO_5.out (fun _ hk => hk.2)) | (rw [Ke]; exact Ka (Kc HO_5.out (fun _ hk => hk.2))) | (show (Addr.add _ _).block ≠ _; rw [Ke]; exact Ka (Kc HO_5.out (fun _ hk => hk.2))) | (dsimp only; exact Ka (Kc HO_5.out (fun _ hk => hk.2)))) _).trans (((Kn (p := ⟨gb474, _, none⟩) (by first | exact Ka (Kc HO_5.out (fun _ hk => hk.2)) | (rw [Ke]; exact Ka (Kc HO_5.out (fun _ hk => hk.2))) | (show (Addr.add _ _).block ≠ _; rw [Ke]; exact Ka (Kc HO_5.out (fun _ hk => hk.2))) | (dsimp only; exact Ka (Kc HO_5.out (fun _ hk => hk.2)))) _).trans (((Kn (p := ⟨gb474, _, none⟩) (by first | exact Ka (Kc HO_5.out (fun _ hk => hk.2)) | (rw [Ke]; exact Ka (Kc HO_5.out (fun _ hk => hk.2))) | (show (Addr.add _ _).block ≠ _; rw [Ke]; exact Ka (Kc HO_5.out (fun _ hk => hk.2))) | (dsimp only; exact Ka (Kc HO_5.out (fun _ hk => hk.2)))) _).trans (((Kn (p := ⟨gb474, _, none⟩) (by first | exact Ka (Kc HO_5.out (fun _ hk => hk.2)) | (rw [Ke]; exact Ka (Kc HO_5.out (fun _ hk => hk.2))) | (show (Addr.add _ _).block ≠ _; rw [Ke]; exact Ka (Kc HO_5.out (fun _ hk => hk.2))) | (dsimp only; exact Ka (Kc HO_5.out (fun _ hk => hk.2)))) _).trans (hHeld.1)))))))))))))), ((Kn (p := ⟨gb474, _, none⟩) (by first | exact Ka (Kc HO_5.out (fun _ hk => hk.2)) | (rw [Ke]; exact Ka (Kc HO_5.out (fun _ hk => hk.2))) | (show (Addr.add _ _).block ≠ _; rw [Ke]; exact Ka (Kc HO_5.out (fun _ hk => hk.2))) | (dsimp only; exact Ka (Kc HO_5.out (fun _ hk => hk.2)))) _).trans (((Kn (p := ⟨gb474, _, none⟩) (by first | exact Ka (Kc HO_5.out (fun _ hk => hk.2)) | (rw [Ke]; exact Ka (Kc HO_5.out (fun _ hk => hk.2))) | (show (Addr.add _ _).block ≠ _; rw [Ke]; exact Ka (Kc HO_5.out (fun _ hk => hk.2))) | (dsimp only; exact Ka (Kc HO_5.out (fun _ hk => hk.2)))) _).trans (((Kn (p := ⟨gb474, _, none⟩) (by first | exact Ka (Kc HO_5.out (fun _ hk => hk.2)) | (rw [Ke]; exact Ka (Kc HO_5.out (fun _ hk => hk.2))) | (show (Addr.add _ _).block ≠ _; rw [Ke]; exact Ka (Kc HO_5.out (fun _ hk => hk.2))) | (dsimp only; exact Ka (Kc HO_5.out (fun _ hk => hk.2)))) _).trans (((Kn (p := ⟨gb474, _, none⟩) (by first | exact Ka (Kc HO_5.out (fun _ hk => hk.2)) | (rw [Ke]; exact Ka (Kc HO_5.out (fun _ hk => hk.2))) | (show (Addr.add _ _).block ≠ _; rw [Ke]; exact Ka (Kc HO_5.out (fun _ hk => hk.2))) | (dsimp only; exact Ka (Kc HO_5.out (fun _ hk => hk.2)))) _).trans (((Kn (p := ⟨gb474, _, none⟩) (by first | exact Ka (Kc HO_5.out (fun _ hk => hk.2)) | (rw [Ke]; exact Ka (Kc HO_5.out (fun _ hk => hk.2))) | (show (Addr.add _ _).block ≠ _; rw [Ke]; exact Ka (Kc HO_5.out (fun _ hk => hk.2))) | (dsimp only; exact Ka (Kc HO_5.out (fun _ hk => hk.2)))) _).trans (((Kn (p := ⟨gb474, _, none⟩) (by first | exact Ka (Kc HO_5.out (fun _ hk => hk.2)) | (rw [Ke]; exact Ka (Kc HO_5.out (fun _ hk => hk.2))) | (show (Addr.add _ _).block ≠ _; rw [Ke]; exact Ka (Kc HO_5.out (fun _ hk => hk.2))) | (dsimp only; exact Ka (Kc HO_5.out (fun _ hk => hk.2)))) _).trans (((Kn (p := ⟨gb474, _, none⟩) (by first | exact Ka (Kc HO_5.out (fun _ hk => hk.2)) | (rw [Ke]; exact Ka (Kc HO_5.out (fun _ hk => hk.2))) | (show (Addr.add _ _).block ≠ _; rw [Ke]; exact Ka (Kc HO_5.out (fun _ hk => hk.2))) | (dsimp only; exact Ka (Kc HO_5.out (fun _ hk => hk.2)))) _).trans (hHeld.2.1)))))))))))))), ((Kn (p := ⟨gb474, _, none⟩) (by first | exact Ka (Kc HO_5.out (fun _ hk => hk.2)) | (rw [Ke]; exact Ka (Kc HO_5.out (fun _ hk => hk.2))) | (show (Addr.add _ _).block ≠ _; rw [Ke]; exact Ka (Kc HO_5.out (fun _ hk => hk.2))) | (dsimp only; exact Ka (Kc HO_5.out (fun _ hk => hk.2)))) _).trans (((Kn (p := ⟨gb474, _, none⟩) (by first | exact Ka (Kc HO_5.out (fun _ hk => hk.2)) | (rw [Ke]; exact Ka (Kc HO_5.out (fun _ hk => hk.2))) | (show (Addr.add _ _).block ≠ _; rw [Ke]; exact Ka (Kc HO_5.out (fun _ hk => hk.2))) | (dsimp only; exact Ka (Kc HO_5.out (fun _ hk => hk.2)))) _).trans (((Kn (p := ⟨gb474, _, none⟩) (by first | exact Ka (Kc HO_5.out (fun _ hk => hk.2)) | (rw [Ke]; exact Ka (Kc HO_5.out (fun _ hk => hk.2))) | (show (Addr.add _ _).block ≠ _; rw [Ke]; exact Ka (Kc HO_5.out (fun _ hk => hk.2))) | (dsimp only; exact Ka (Kc HO_5.out (fun _ hk => hk.2)))) _).trans (((Kn (p := ⟨gb474, _, none⟩) (by first | exact Ka (Kc HO_5.out (fun _ hk => hk.2)) | (rw [Ke]; exact Ka (Kc HO_5.out (fun _ hk => hk.2))) | (show (Addr.add _ _).block ≠ _; rw [Ke]; exact Ka (Kc HO_5.out (fun _ hk => hk.2))) | (dsimp only; exact Ka (Kc HO_5.out (fun _ hk => hk.2)))) _).trans (((Kn (p := ⟨gb474, _, none⟩) (by first | exact Ka (Kc HO_5.out (fun _ hk => hk.2)) | (rw [Ke]; exact Ka (Kc HO_5.out (fun _ hk => hk.2))) | (show (Addr.add _ _).block ≠ _; rw [Ke]; exact Ka (Kc HO_5.out (fun _ hk => hk.2))) | (dsimp only; exact Ka (Kc HO_5.out (fun _ hk => hk.2)))) _).trans (((Kn (p := ⟨gb474, _, none⟩) (by first | exact Ka (Kc HO_5.out (fun _ hk => hk.2)) | (rw [Ke]; exact Ka (Kc HO_5.out (fun _ hk => hk.2))) | (show (Addr.add _ _).block ≠ _; rw [Ke]; exact Ka (Kc HO_5.out (fun _ hk => hk.2))) | (dsimp only; exact Ka (Kc HO_5.out (fun _ hk => hk.2)))) _).trans (((Kn (p := ⟨gb474, _, none⟩) (by first | exact Ka (Kc HO_5.out (fun _ hk => hk.2)) | (rw [Ke]; exact Ka (Kc HO_5.out (fun _ hk => hk.2))) | (show (Addr.add _ _).block ≠ _; rw [Ke]; exact Ka (Kc HO_5.out (fun _ hk => hk.2))) | (dsimp only; exact Ka (Kc HO_5.out (fun _ hk => hk.2)))) _).trans (hHeld.2.2.1)))))))))))))), ((Kn (p := ⟨gb474, _, none⟩) (by first | exact Ka (Kc HO_5.out (fun _ hk => hk.2)) | (rw [Ke]; exact Ka (Kc HO_5.out (fun _ hk => hk.2))) | (show (Addr.add _ _).block ≠ _; rw [Ke]; exact Ka (Kc HO_5.out (fun _ hk => hk.2))) | (dsimp only; exact Ka (Kc HO_5.out (fun _ hk => hk.2)))) _).trans (((Kn (p := ⟨gb474, _, none⟩) (by first | exact Ka (Kc HO_5.out (fun _ hk => hk.2)) | (rw [Ke]; exact Ka (Kc HO_5.out (fun _ hk => hk.2))) | (show (Addr.add _ _).block ≠ _; rw [Ke]; exact Ka (Kc HO_5.out (fun _ hk => hk.2))) | (dsimp only; exact Ka (Kc HO_5.out (fun _ hk => hk.2)))) _).trans (((Kn (p := ⟨gb474, _, none⟩) (by first | exact Ka (Kc HO_5.out (fun _ hk => hk.2)) | (rw [Ke]; exact Ka (Kc HO_5.out (fun _ hk => hk.2))) | (show (Addr.add _ _).block ≠ _; rw [Ke]; exact Ka (Kc HO_5.out (fun _ hk => hk.2))) | (dsimp only; exact Ka (Kc HO_5.out (fun _ hk => hk.2)))) _).trans (((Kn (p := ⟨gb474, _, none⟩) (by first | exact Ka (Kc HO_5.out (fun _ hk => hk.2)) | (rw [Ke]; exact Ka (Kc HO_5.out (fun _ hk => hk.2))) | (show (Addr.add _ _).block ≠ _; rw [Ke]; exact Ka (Kc HO_5.out (fun _ hk => hk.2))) | (dsimp only; exact Ka (Kc HO_5.out (fun _ hk => hk.2)))) _).trans (((Kn (p := ⟨gb474, _, none⟩) (by first | exact Ka (Kc HO_5.out (fun _ hk => hk.2)) | (rw [Ke]; exact Ka (Kc HO_5.out (fun _ hk => hk.2))) | (show (Addr.add _ _).block ≠ _; rw [Ke]; exact Ka (Kc HO_5.out (fun _ hk => hk.2))) | (dsimp only; exact Ka (Kc HO_5.out (fun _ hk => hk.2)))) _).trans (((Kn (p := ⟨gb474, _, none⟩) (by first | exact Ka (Kc HO_5.out (fun _ hk => hk.2)) | (rw [Ke]; exact Ka (Kc HO_5.out (fun _ hk => hk.2))) | (show (Addr.add _ _).block ≠ _; rw [Ke]; exact Ka (Kc HO_5.out (fun _ hk => hk.2))) | (dsimp only; exact Ka (Kc HO_5.out (fun _ hk => hk.2)))) _).trans (((Kn (p := ⟨gb474, _, none⟩) (by first | exact Ka (Kc HO_5.out (fun _ hk => hk.2)) | (rw [Ke]; exact Ka (Kc HO_5.out (fun _ hk => hk.2))) | (show (Addr.add _ _).block ≠ _; rw [Ke]; exact Ka (Kc HO_5.out (fun _ hk => hk.2))) | (dsimp only; exact Ka (Kc HO_5.out (fun _ hk => hk.2)))) _).trans (hHeld.2.2.2.1)))))))))))))), ((Kn (p := ⟨gb474, _, none⟩) (by first | exact Ka (Kc HO_5.out (fun _ hk => hk.2)) | (rw [Ke]; exact Ka (Kc HO_5.out (fun _ hk => hk.2))) | (show (Addr.add _ _).block ≠ _; rw [Ke]; exact Ka (Kc HO_5.out (fun _ hk => hk.2))) | (dsimp only; exact Ka (Kc HO_5.out (fun _ hk => hk.2)))) _).trans (((Kn (p := ⟨gb474, _, none⟩) (by first | exact Ka (Kc HO_5.out (fun _ hk => hk.2)) | (rw [Ke]; exact Ka (Kc HO_5.out (fun _ hk => hk.2))) | (show (Addr.add _ _).block ≠ _; rw [Ke]; exact Ka (Kc HO_5.out (fun _ hk => hk.2))) | (dsimp only; exact Ka (Kc HO_5.out (fun _ hk => hk.2)))) _).trans (((Kn (p := ⟨gb474, _, none⟩) (by first | exact Ka (Kc HO_5.out (fun _ hk => hk.2)) | (rw [Ke]; exact Ka (Kc HO_5.out (fun _ hk => hk.2))) | (show (Addr.add _ _).block ≠ _; rw [Ke]; exact Ka (Kc HO_5.out (fun _ hk => hk.2))) | (dsimp only; exact Ka (Kc HO_5.out (fun _ hk => hk.2)))) _).trans (((Kn (p := ⟨gb474, _, none⟩) (by first | exact Ka (Kc HO_5.out (fun _ hk => hk.2)) | (rw [Ke]; exact Ka (Kc HO_5.out (fun _ hk => hk.2))) | (show (Addr.add _ _).block ≠ _; rw [Ke]; exact Ka (Kc HO_5.out (fun _ hk => hk.2))) | (dsimp only; exact Ka (Kc HO_5.out (fun _ hk => hk.2)))) _).trans (((Kn (p := ⟨gb474, _, none⟩) (by first | exact Ka (Kc HO_5.out (fun _ hk => hk.2)) | (rw [Ke]; exact Ka (Kc HO_5.out (fun _ hk => hk.2))) | (show (Addr.add _ _).block ≠ _; rw [Ke]; exact Ka (Kc HO_5.out (fun _ hk => hk.2))) | (dsimp only; exact Ka (Kc HO_5.out (fun _ hk => hk.2)))) _).trans (((Kn (p := ⟨gb474, _, none⟩) (by first | exact Ka (Kc HO_5.out (fun _ hk => hk.2)) | (rw [Ke]; exact Ka (Kc HO_5.out (fun _ hk => hk.2))) | (show (Addr.add _ _).block ≠ _; rw [Ke]; exact Ka (Kc HO_5.out (fun _ hk => hk.2))) | (dsimp only; exact Ka (Kc HO_5.out (fun _ hk => hk.2)))) _).trans (((Kn (p := ⟨gb474, _, none⟩) (by first | exact Ka (Kc HO_5.out (fun _ hk => hk.2)) | (rw [Ke]; exact Ka (Kc HO_5.out (fun _ hk => hk.2))) | (show (Addr.add _ _).block ≠ _; rw [Ke]; exact Ka (Kc HO_5.out (fun _ hk => hk.2))) | (dsimp only; exact Ka (Kc HO_5.out (fun _ hk => hk.2)))) _).trans (hHeld.2.2.2.2.1)))))))))))))), ((Kn (p := ⟨gb474, _, none⟩) (by first | exact Ka (Kc HO_5.out (fun _ hk => hk.2)) | (rw [Ke]; exact Ka (Kc HO_5.out (fun _ hk => hk.2))) | (show (Addr.add _ _).block ≠ _; rw [Ke]; exact Ka (Kc HO_5.out (fun _ hk => hk.2))) | (dsimp only; exact Ka (Kc HO_5.out (fun _ hk => hk.2)))) _).trans (((Kn (p := ⟨gb474, _, none⟩) (by first | exact Ka (Kc HO_5.out (fun _ hk => hk.2)) | (rw [Ke]; exact Ka (Kc HO_5.out (fun _ hk => hk.2))) | (show (Addr.add _ _).block ≠ _; rw [Ke]; exact Ka (Kc HO_5.out (fun _ hk => hk.2))) | (dsimp only; exact Ka (Kc HO_5.out (fun _ hk => hk.2)))) _).trans (((Kn (p := ⟨gb474, _, none⟩) (by first | exact Ka (Kc HO_5.out (fun _ hk => hk.2)) | (rw [Ke]; exact Ka (Kc HO_5.out (fun _ hk => hk.2))) | (show (Addr.add _ _).block ≠ _; rw [Ke]; exact Ka (Kc HO_5.out (fun _ hk => hk.2))) | (dsimp only; exact Ka (Kc HO_5.out (fun _ hk => hk.2)))) _).trans (((Kn (p := ⟨gb474, _, none⟩) (by first | exact Ka (Kc HO_5.out (fun _ hk => hk.2)) | (rw [Ke]; exact Ka (Kc HO_5.out (fun _ hk => hk.2))) | (show (Addr.add _ _).block ≠ _; rw [Ke]; exact Ka (Kc HO_5.out (fun _ hk => hk.2))) | (dsimp only; exact Ka (Kc HO_5.out (fun _ hk => hk.2)))) _).trans (((Kn (p := ⟨gb474, _, none⟩) (by first | exact Ka (Kc HO_5.out (fun _ hk => hk.2)) | (rw [Ke]; exact Ka (Kc HO_5.out (fun _ hk => hk.2))) | (show (Addr.add _ _).block ≠ _; rw [Ke]; exact Ka (Kc HO_5.out (fun _ hk => hk.2))) | (dsimp only; exact Ka (Kc HO_5.out (fun _ hk => hk.2)))) _).trans (((Kn (p := ⟨gb474, _, none⟩) (by first | exact Ka (Kc HO_5.out (fun _ hk => hk.2)) | (rw [Ke]; exact Ka (Kc HO_5.out (fun _ hk => hk.2))) | (show (Addr.add _ _).block ≠ _; rw [Ke]; exact Ka (Kc HO_5.out (fun _ hk => hk.2))) | (dsimp only; exact Ka (Kc HO_5.out (fun _ hk => hk.2)))) _).trans (((Kn (p := ⟨gb474, _, none⟩) (by first | exact Ka (Kc HO_5.out (fun _ hk => hk.2)) | (rw [Ke]; exact Ka (Kc HO_5.out (fun _ hk => hk.2))) | (show (Addr.add _ _).block ≠ _; rw [Ke]; exact Ka (Kc HO_5.out (fun _ hk => hk.2))) | (dsimp only; exact Ka (Kc HO_5.out (fun _ hk => hk.2)))) _).trans (hHeld.2.2.2.2.2.1)))))))))))))), ((Kn (p := ⟨gb474, _, none⟩) (by first | exact Ka (Kc HO_5.out (fun _ hk => hk.2)) | (rw [Ke]; exact Ka (Kc HO_5.out (fun _ hk => hk.2))) | (show (Addr.add _ _).block ≠ _; rw [Ke]; exact Ka (Kc HO_5.out (fun _ hk => hk.2))) | (dsimp only; exact Ka (Kc HO_5.out (fun _ hk => hk.2)))) _).trans (((Kn (p := ⟨gb474, _, none⟩) (by first | exact Ka (Kc HO_5.out (fun _ hk => hk.2)) | (rw [Ke]; exact Ka (Kc HO_5.out (fun _ hk => hk.2))) | (show (Addr.add _ _).block ≠ _; rw [Ke]; exact Ka (Kc HO_5.out (fun _ hk => hk.2))) | (dsimp only; exact Ka (Kc HO_5.out (fun _ hk => hk.2)))) _).trans (((Kn (p := ⟨gb474, _, none⟩) (by first | exact Ka (Kc HO_5.out (fun _ hk => hk.2)) | (rw [Ke]; exact Ka (Kc HO_5.out (fun _ hk => hk.2))) | (show (Addr.add _ _).block ≠ _; rw [Ke]; exact Ka (Kc HO_5.out (fun _ hk => hk.2))) | (dsimp only; exact Ka (Kc HO_5.out (fun _ hk => hk.2)))) _).trans (((Kn (p := ⟨gb474, _, none⟩) (by first | exact Ka (Kc HO_5.out (fun _ hk => hk.2)) | (rw [Ke]; exact Ka (Kc HO_5.out (fun _ hk => hk.2))) | (show (Addr.add _ _).block ≠ _; rw [Ke]; exact Ka (Kc HO_5.out (fun _ hk => hk.2))) | (dsimp only; exact Ka (Kc HO_5.out (fun _ hk => hk.2)))) _).trans (((Kn (p := ⟨gb474, _, none⟩) (by first | exact Ka (Kc HO_5.out (fun _ hk => hk.2)) | (rw [Ke]; exact Ka (Kc HO_5.out (fun _ hk => hk.2))) | (show (Addr.add _ _).block ≠ _; rw [Ke]; exact Ka (Kc HO_5.out (fun _ hk => hk.2))) | (dsimp only; exact Ka (Kc HO_5.out (fun _ hk => hk.2)))) _).trans (((Kn (p := ⟨gb474, _, none⟩) (by first | exact Ka (Kc HO_5.out (fun _ hk => hk.2)) | (rw [Ke]; exact Ka (Kc HO_5.out (fun _ hk => hk.2))) | (show (Addr.add _ _).block ≠ _; rw [Ke]; exact Ka (Kc HO_5.out (fun _ hk => hk.2))) | (dsimp only; exact Ka (Kc HO_5.out (fun _ hk => hk.2)))) _).trans (((Kn (p := ⟨gb474, _, none⟩) (by first | exact Ka (Kc HO_5.out (fun _ hk => hk.2)) | (rw [Ke]; exact Ka (Kc HO_5.out (fun _ hk => hk.2))) | (show (Addr.add _ _).block ≠ _; rw [Ke]; exact Ka (Kc HO_5.out (fun _ hk => hk.2))) | (dsimp only; exact Ka (Kc HO_5.out (fun _ hk => hk.2)))) _).trans (hHeld.2.2.2.2.2.2))))))))))))))⟩ (fun hHeld => ?_)
       clear hK K
       refine pu 12 9 #[o,o,o,o,o,o,o,o,o,o,o,o,o] HT_ ?_
       refine done_ (done_of HT_.out (by kernel_rfl)) ?_
       try go_wp2_with (first | (go_at_call 35; (with_reducible refine (spec_l1Once.calls g452 t449 t464 t465 2 false t476 t477 w _ ?side1 ?side2 A13.out).mono ?_); (case side1 => exact iT NB452_474.out HI452.out); (case side2 => repeat (first | (with_reducible first | exact HB.out | apply Ky | apply Kj | apply Ks | refine Ki ?_ (IsS92.ge HI452.out) | refine Ki ?_ GE474.out) | exact HB.out)); rintro e w46 ⟨rfl, hi, hb, hk⟩; replace HO_5 := am (Kt (Kd.R_keep (IsS92.apart (show IsS92 w _ g452 t449 t464 t465 from (iT NB452_474.out HI452.out)) (by (with_reducible repeat (first | apply Kd.R_alloc | apply Kd.R_drewN | apply Kd.R_drew)); exact (Kt (Kd.R_far (p := ⟨gb474, 6, none⟩) (Kd.R_far (p := ⟨gb474, 5, none⟩) (Kd.R_far (p := ⟨gb474, 4, none⟩) (Kd.R_far (p := ⟨gb474, 3, none⟩) (Kd.R_far (p := ⟨gb474, 2, none⟩) (Kd.R_far (p := ⟨gb474, 1, none⟩) (Kd.R_far (p := ⟨gb474, 0, none⟩) (Kt HO_5.out (fun k_ hk => (⟨hk, hk.2⟩ : _ ∧ k_ ≠ gb474))) (fun _ hk => hk.2) (.int .i64 t466)) (fun _ hk => hk.2) (.int .i64 t467)) (fun _ hk => hk.2) (.int .i64 t468)) (fun _ hk => hk.2) (.int .i64 t469)) (fun _ hk => hk.2) (.int .i64 t470)) (fun _ hk => hk.2) (.int .i64 t471)) (fun _ hk => hk.2) (.bool t472)) (fun _ h_ => h_.1))) (by decide)) hk (fun _ h => h.2)) (fun _ h => h.1)); replace HO_6 := am (Kt (Kd.R_keep (IsS92.apart (show IsS92 w _ g452 t449 t464 t465 from (iT NB452_474.out HI452.out)) (by (with_reducible repeat (first | apply Kd.R_alloc | apply Kd.R_drewN | apply Kd.R_drew)); exact (Kt (Kd.R_far (p := ⟨gb474, 6, none⟩) (Kd.R_far (p := ⟨gb474, 5, none⟩) (Kd.R_far (p := ⟨gb474, 4, none⟩) (Kd.R_far (p := ⟨gb474, 3, none⟩) (Kd.R_far (p := ⟨gb474, 2, none⟩) (Kd.R_far (p := ⟨gb474, 1, none⟩) (Kd.R_far (p := ⟨gb474, 0, none⟩) (Kt HO_6.out (fun k_ hk => (⟨hk, hk.2⟩ : _ ∧ k_ ≠ gb474))) (fun _ hk => hk.2) (.int .i64 t466)) (fun _ hk => hk.2) (.int .i64 t467)) (fun _ hk => hk.2) (.int .i64 t468)) (fun _ hk => hk.2) (.int .i64 t469)) (fun _ hk => hk.2) (.int .i64 t470)) (fun _ hk => hk.2) (.int .i64 t471)) (fun _ hk => hk.2) (.bool t472)) (fun _ h_ => h_.1))) (by decide)) hk (fun _ h => h.2)) (fun _ h => h.1)); replace BK474 := am (Kv hk (g' := gb474) (o := .cells #[.int .i64 t466, .int .i64 t467, .int .i64 t468, .int .i64 t469, .int .i64 t470, .int .i64 t471, .bool t472] 35 (0, 0)) (by refine bB ?_; refine Kg (cs := #[.int .i64 t466, .int .i64 t467, .int .i64 t468, .int .i64 t469, .int .i64 t470, .int .i64 t471, .bool false]) ?_ 6 _ rfl; refine bB ?_; refine Kg (cs := #[.int .i64 t466, .int .i64 t467, .int .i64 t468, .int .i64 t469, .int .i64 t470, .int .i64 0, .bool false]) ?_ 5 _ rfl; refine bB ?_; refine Kg (cs := #[.int .i64 t466, .int .i64 t467, .int .i64 t468, .int .i64 t469, .int .i64 0, .int .i64 0, .bool false]) ?_ 4 _ rfl; refine bB ?_; refine Kg (cs := #[.int .i64 t466, .int .i64 t467, .int .i64 t468, .int .i64 0, .int .i64 0, .int .i64 0, .bool false]) ?_ 3 _ rfl; refine bB ?_; refine Kg (cs := #[.int .i64 t466, .int .i64 t467, .int .i64 0, .int .i64 0, .int .i64 0, .int .i64 0, .bool false]) ?_ 2 _ rfl; refine bB ?_; refine Kg (cs := #[.int .i64 t466, .int .i64 0, .int .i64 0, .int .i64 0, .int .i64 0, .int .i64 0, .bool false]) ?_ 1 _ rfl; refine bB ?_; refine Kg (cs := #[.int .i64 0, .int .i64 0, .int .i64 0, .int .i64 0, .int .i64 0, .int .i64 0, .bool false]) ?_ 0 _ rfl; refine bB ?_; exact BK474.out) NB474_452.out (by simp)); replace HB := am (hb); replace HI452 := am (hi); (try clear hb); (try clear hk); (try clear hi)))
       go_roundg k1
       case measure => have := HK1.out; omega
       case rel => exact ⟨(x6_1), (wrap64 (x7_1 + 1)), (t476), (t477), (by first | rfl | (simp; done) | (simp [*]; done)), H', ⟨by have := HK1.out; omega⟩, ⟨by (with_reducible repeat (first | apply Kd.R_alloc | apply Kd.R_drewN | apply Kd.R_drew)); exact Kt HO_5.out (fun _ hk => hk.1)⟩, ⟨by (with_reducible repeat (first | apply Kd.R_alloc | apply Kd.R_drewN | apply Kd.R_drew)); exact Kt HO_6.out (fun _ hk => hk.1)⟩, ⟨(iT NB452_474.out HI452.out)⟩, ⟨by repeat (first | (with_reducible first | exact HB.out | apply Ky | apply Kj | apply Ks | refine Ki ?_ (IsS92.ge HI452.out) | refine Ki ?_ GE474.out) | exact HB.out)⟩⟩
     ·replace c12 := bF c12
      subst c12
      replace H := hF H
      have H' := am H
      clear H
      obtain ⟨Ao47, co47, eo47⟩ := Kd.R_slice HO_5.out
      subst eo47
      try go_wp2
      replace HO_5 := am (Kd.R_drew HO_5.out)
      replace HO_6 := am (Kd.R_drew HO_6.out)
      replace HI452 := am (IsS92.drew HI452.out)
      replace HB := am (Ks HB.out)
      have p461 : 0 ≤ (x7_1 : Int) := Kp (by first | (with_reducible assumption) | assumption)
      have q461 : x7_1 < (t453.length : Int) := Kp (by first | (with_reducible assumption) | assumption)
      obtain ⟨ad461, e461, hx461_0, hx461_1, hx461_2, hx461_3, hx461_4, hx461_5, hx461_6⟩ := at_T35 (Kq HO_5.out).2.2 x7_1 p461 q461
      cases e461
      replace p461 := eq_true p461
      replace q461 := eq_true q461
      refine start_ (n := 13) (S := fun w' => w'.cell? (ad461.add ((x7_1).toNat * 7)) = some (.int .i64 ((rd_T35 t453 x7_1).f0)) ∧ w'.cell? ⟨(ad461.add ((x7_1).toNat * 7)).block, (ad461.add ((x7_1).toNat * 7)).off + 1, none⟩ = some (.int .i64 ((rd_T35 t453 x7_1).f1.f0)) ∧ w'.cell? ⟨(ad461.add ((x7_1).toNat * 7)).block, (ad461.add ((x7_1).toNat * 7)).off + 2, none⟩ = some (.int .i64 ((rd_T35 t453 x7_1).f1.f1)) ∧ w'.cell? ⟨(ad461.add ((x7_1).toNat * 7)).block, (ad461.add ((x7_1).toNat * 7)).off + 3, none⟩ = some (.int .i64 ((rd_T35 t453 x7_1).f2)) ∧ w'.cell? ⟨(ad461.add ((x7_1).toNat * 7)).block, (ad461.add ((x7_1).toNat * 7)).off + 4, none⟩ = some (.int .i64 ((rd_T35 t453 x7_1).f3)) ∧ w'.cell? ⟨(ad461.add ((x7_1).toNat * 7)).block, (ad461.add ((x7_1).toNat * 7)).off + 5, none⟩ = some (.int .i64 ((rd_T35 t453 x7_1).f4)) ∧ w'.cell? ⟨(ad461.add ((x7_1).toNat * 7)).block, (ad461.add ((x7_1).toNat * 7)).off + 6, none⟩ = some (.bool ((rd_T35 t453 x7_1).f5))) (ds := []) #[z,z,z,z,z,z,z,z,z,z,z,z,z] (by kernel_rfl) rfl rfl ⟨hx461_0, hx461_1, hx461_2, hx461_3, hx461_4, hx461_5, hx461_6⟩ (fun hHeld => ?_); refine with_tabW spec_DrawIsWithinGrants.tab7 spec_DrawIsWithinGrants.bits7 (fun HT_ HW_ => ?_)
      generalize wr.drew = w48 at HO_5 HO_6 HI452 HB hx461_0 hx461_1 hx461_2 hx461_3 hx461_4 hx461_5 hx461_6 hHeld ⊢
      refine pu 0 22 #[o,z,z,z,z,z,z,z,z,z,z,z,z] HT_ ?_
      refine pu 1 23 #[o,o,z,z,z,z,z,z,z,z,z,z,z] HT_ ?_
      refine pu 2 24 #[o,o,o,z,z,z,z,z,z,z,z,z,z] HT_ ?_
      refine pu 4 26 #[o,o,o,z,o,z,z,z,z,z,z,z,z] HT_ ?_
      refine take_ (i := 3) (N := some 25) (v := ?_) (a' := ?_) #[o,o,o,o,o,z,z,z,z,z,z,z,z] rfl rfl (take_ofW HT_.out HW_.out (by kernel_rfl)) (fun _ _ _ h => h) (Or.inl ⟨by rfl, ?_⟩) hHeld ?_ ?_
      rotate_left
      ·rintro w' ⟨s0, s1, s2, s3, s4, s5, s6⟩
       go_simp
       with_reducible rfl
      rotate_left
      ·simp only [Act.put, qa, qb, qc, i64_w, i32_w]
       rfl
      refine join_ (σ := Nat) 2 #[o,o,o,o,o,o,o,o,o,o,o,z,z] (fun s_ => [(27, .agg #[.int .i64 t462, .int .i64 t463]), (28, .tuple #[.agg #[.int .i64 t466, .int .i64 t467, .int .i64 t468, .int .i64 t469, .int .i64 t470, .int .i64 t471, .bool t472], .bool false]), (8, .pointer (some ⟨s_, 0, none⟩)), (21, .tuple #[.agg #[.int .i64 t466, .int .i64 t467, .int .i64 t468, .int .i64 t469, .int .i64 t470, .int .i64 t471, .bool t472], .bool false]), (29, .agg #[.int .i64 t466, .int .i64 t467, .int .i64 t468, .int .i64 t469, .int .i64 t470, .int .i64 t471, .bool t472]), (30, .bool false)]) (fun s_ w' => (w'.cell? (ad461.add ((x7_1).toNat * 7)) = some (.int .i64 ((rd_T35 t453 x7_1).f0)) ∧ w'.cell? ⟨(ad461.add ((x7_1).toNat * 7)).block, (ad461.add ((x7_1).toNat * 7)).off + 1, none⟩ = some (.int .i64 ((rd_T35 t453 x7_1).f1.f0)) ∧ w'.cell? ⟨(ad461.add ((x7_1).toNat * 7)).block, (ad461.add ((x7_1).toNat * 7)).off + 2, none⟩ = some (.int .i64 ((rd_T35 t453 x7_1).f1.f1)) ∧ w'.cell? ⟨(ad461.add ((x7_1).toNat * 7)).block, (ad461.add ((x7_1).toNat * 7)).off + 3, none⟩ = some (.int .i64 ((rd_T35 t453 x7_1).f2)) ∧ w'.cell? ⟨(ad461.add ((x7_1).toNat * 7)).block, (ad461.add ((x7_1).toNat * 7)).off + 4, none⟩ = some (.int .i64 ((rd_T35 t453 x7_1).f3)) ∧ w'.cell? ⟨(ad461.add ((x7_1).toNat * 7)).block, (ad461.add ((x7_1).toNat * 7)).off + 5, none⟩ = some (.int .i64 ((rd_T35 t453 x7_1).f4)) ∧ w'.cell? ⟨(ad461.add ((x7_1).toNat * 7)).block, (ad461.add ((x7_1).toNat * 7)).off + 6, none⟩ = some (.bool ((rd_T35 t453 x7_1).f5))) ∧ (Kd.R k35 35 w' w.heap.size (fun k_ => some k_ ≠ (u6 : Value).ownBlock ∧ k_ ≠ s_) (.slice (some ad461) t453.length co47) t453) ∧ (Kd.R k35 35 w' w.heap.size (fun k_ => some k_ ≠ (.slice (some ad461) t453.length co47 : Value).ownBlock ∧ k_ ≠ s_) u6 x6_1) ∧ (w'.heap[s_]? = some (.cells #[.int .i64 0, .int .i64 0, .int .i64 0, .int .i64 0, .int .i64 0, .int .i64 0, .bool false] 35 (0, 0))) ∧ (w.heap.size ≤ s_) ∧ (w.heap.size ≤ s_) ∧ (g452 ≠ s_) ∧ (s_ ≠ g452) ∧ (IsS92 w w' g452 t449 t464 t465) ∧ (Below w.heap.size w w')) ?_ ?_
      rotate_left
      ·intro hCont
       refine two_ (i := 5) (j := 10) (Ni := some 27) (Nj := some 8) #[o,o,o,o,o,o,z,z,z,z,z,z,z] #[o,o,o,o,o,z,z,z,z,z,o,z,z] rfl rfl rfl rfl (two_of HT_.out (by kernel_rfl)) (by decide) (by decide) (fun K hK => ?_) (fun K hK => ?_)
       ·skip
        refine gS Try.func48 #[.pointer (some ⟨g452, 0, none⟩)] ?_
        with_reducible refine (spec_l9Pattern.calls g452 t449 x453001_1 x453002_1 t462 t463 t464 t465 w _ ?side1 ?side2 A10.out).mono ?_
        (case side1 => exact iS HI452.out)
        (case side2 => exact sG (IsS92.ge HI452.out) HB.out)
        rintro e w49 ⟨rfl, hi, hb, hk⟩
        have HS0_ := keep_cell hk (hHeld.1) (by first | (rw [Ke]; exact Ka (IsS92.own_ne HI452.out HO_5.out (by decide))) | (show (Addr.add _ _).block ≠ _; rw [Ke]; exact Ka (IsS92.own_ne HI452.out HO_5.out (by decide))) | exact Ka (IsS92.own_ne HI452.out HO_5.out (by decide)))
        have HS1_ := keep_cell hk (hHeld.2.1) (by first | (rw [Ke]; exact Ka (IsS92.own_ne HI452.out HO_5.out (by decide))) | (show (Addr.add _ _).block ≠ _; rw [Ke]; exact Ka (IsS92.own_ne HI452.out HO_5.out (by decide))) | exact Ka (IsS92.own_ne HI452.out HO_5.out (by decide)))
        have HS2_ := keep_cell hk (hHeld.2.2.1) (by first | (rw [Ke]; exact Ka (IsS92.own_ne HI452.out HO_5.out (by decide))) | (show (Addr.add _ _).block ≠ _; rw [Ke]; exact Ka (IsS92.own_ne HI452.out HO_5.out (by decide))) | exact Ka (IsS92.own_ne HI452.out HO_5.out (by decide)))
        have HS3_ := keep_cell hk (hHeld.2.2.2.1) (by first | (rw [Ke]; exact Ka (IsS92.own_ne HI452.out HO_5.out (by decide))) | (show (Addr.add _ _).block ≠ _; rw [Ke]; exact Ka (IsS92.own_ne HI452.out HO_5.out (by decide))) | exact Ka (IsS92.own_ne HI452.out HO_5.out (by decide)))
        have HS4_ := keep_cell hk (hHeld.2.2.2.2.1) (by first | (rw [Ke]; exact Ka (IsS92.own_ne HI452.out HO_5.out (by decide))) | (show (Addr.add _ _).block ≠ _; rw [Ke]; exact Ka (IsS92.own_ne HI452.out HO_5.out (by decide))) | exact Ka (IsS92.own_ne HI452.out HO_5.out (by decide)))
        have HS5_ := keep_cell hk (hHeld.2.2.2.2.2.1) (by first | (rw [Ke]; exact Ka (IsS92.own_ne HI452.out HO_5.out (by decide))) | (show (Addr.add _ _).block ≠ _; rw [Ke]; exact Ka (IsS92.own_ne HI452.out HO_5.out (by decide))) | exact Ka (IsS92.own_ne HI452.out HO_5.out (by decide)))
        have HS6_ := keep_cell hk (hHeld.2.2.2.2.2.2) (by first | (rw [Ke]; exact Ka (IsS92.own_ne HI452.out HO_5.out (by decide))) | (show (Addr.add _ _).block ≠ _; rw [Ke]; exact Ka (IsS92.own_ne HI452.out HO_5.out (by decide))) | exact Ka (IsS92.own_ne HI452.out HO_5.out (by decide)))
        refine ⟨_, rfl, ?_⟩
        replace HO_5 := am (Kt (Kd.R_keep (IsS92.apart (show IsS92 w _ g452 t449 x453001_1 x453002_1 from (iS HI452.out)) (rB HO_5.out) (by decide)) hk (fun _ h => h.2)) (fun _ h => h.1))
        replace HO_6 := am (Kt (Kd.R_keep (IsS92.apart (show IsS92 w _ g452 t449 x453001_1 x453002_1 from (iS HI452.out)) (rB HO_6.out) (by decide)) hk (fun _ h => h.2)) (fun _ h => h.1))
        replace HB := am (hb)
        replace HI452 := am (hi)
        (try clear hb)
        (try clear hb2)
        (try clear hk)
        (try clear hi)
        refine hK.out _ _ ⟨HS0_, HS1_, HS2_, HS3_, HS4_, HS5_, HS6_⟩ (fun hHeld => ?_)
        clear hK K
        refine norm_ (a' := ?_) ?_ ?_
        rotate_left
        ·show Act.put _ (some 27) _ = _
         simp only [Act.put, qa, qb, qc, i64_w, i32_w]
         rfl
        refine two_ (i := 6) (j := 10) (Ni := some 28) (Nj := some 8) #[o,o,o,o,o,o,o,z,z,z,z,z,z] #[o,o,o,o,o,o,z,z,z,z,o,z,z] rfl rfl rfl rfl (two_of HT_.out (by kernel_rfl)) (by decide) (by decide) (fun K hK => ?_) (fun K hK => ?_)
        ·skip
         refine gS Try.func47 #[.agg #[.int .i64 ((rd_T35 t453 x7_1).f0), .int .i64 ((rd_T35 t453 x7_1).f1.f0), .int .i64 ((rd_T35 t453 x7_1).f1.f1), .int .i64 ((rd_T35 t453 x7_1).f2), .int .i64 ((rd_T35 t453 x7_1).f3), .int .i64 ((rd_T35 t453 x7_1).f4), .bool ((rd_T35 t453 x7_1).f5)], .agg #[.int .i64 t462, .int .i64 t463]] ?_
         with_reducible refine (spec_NarrowGrant.calls k1 ((rd_T35 t453 x7_1).f0) ((rd_T35 t453 x7_1).f1.f0) ((rd_T35 t453 x7_1).f1.f1) ((rd_T35 t453 x7_1).f2) ((rd_T35 t453 x7_1).f3) ((rd_T35 t453 x7_1).f4) ((rd_T35 t453 x7_1).f5) t462 t463 t466 t467 t468 t469 t470 t471 t472 false _ A11.out).mono ?_
         rintro e w50 ⟨rfl, hb⟩
         have HS0_ := (hb.cell (Kf _ _ (hHeld.1))).trans (hHeld.1)
         have HS1_ := (hb.cell (Kf _ _ (hHeld.2.1))).trans (hHeld.2.1)
         have HS2_ := (hb.cell (Kf _ _ (hHeld.2.2.1))).trans (hHeld.2.2.1)
         have HS3_ := (hb.cell (Kf _ _ (hHeld.2.2.2.1))).trans (hHeld.2.2.2.1)
         have HS4_ := (hb.cell (Kf _ _ (hHeld.2.2.2.2.1))).trans (hHeld.2.2.2.2.1)
         have HS5_ := (hb.cell (Kf _ _ (hHeld.2.2.2.2.2.1))).trans (hHeld.2.2.2.2.2.1)
         have HS6_ := (hb.cell (Kf _ _ (hHeld.2.2.2.2.2.2))).trans (hHeld.2.2.2.2.2.2)
         refine ⟨_, rfl, ?_⟩
         have n0_ := am (Ko (rB HO_5.out) hb)
         have n1_ := am (Ko (rB HO_6.out) hb)
         have n2_ := am (IsS92.below (iS HI452.out) hb)
         have n3_ := am (Kh (sG (IsS92.ge HI452.out) HB.out) hb)
         clear HO_5
         clear HO_6
         clear HI452
         clear HB
         have HO_5 := n0_
         have HO_6 := n1_
         have HI452 := n2_
         have HB := n3_
         clear n0_ n1_ n2_ n3_
         (try clear hb)
         (try clear hb2)
         (try clear hk)
         (try clear hi)
         refine hK.out _ _ ⟨HS0_, HS1_, HS2_, HS3_, HS4_, HS5_, HS6_⟩ (fun hHeld => ?_)
         clear hK K
         refine norm_ (a' := ?_) ?_ ?_
         rotate_left
         ·show Act.put _ (some 28) _ = _
          simp only [Act.put, qa, qb, qc, i64_w, i32_w]
          rfl
         refine pu 7 21 #[o,o,o,o,o,o,o,o,z,z,z,z,z] HT_ ?_
         refine pu 8 29 #[o,o,o,o,o,o,o,o,o,z,z,z,z] HT_ ?_
         refine pu 9 30 #[o,o,o,o,o,o,o,o,o,o,z,z,z] HT_ ?_
         refine one_ (i := 10) (N := some 8) #[o,o,o,o,o,o,o,o,o,o,o,z,z] rfl rfl (one_of HT_.out (by kernel_rfl)) (by decide) (fun K hK => ?_)
         refine box_step ?hg (N := 8) ?hd (cs := #[.int .i64 0, .int .i64 0, .int .i64 0, .int .i64 0, .int .i64 0, .int .i64 0, .bool false]) (t := 35) ?hr ?_; (case hd => rfl); (case hg => rfl); (case hr => first | (go_simp; done) | (go_simp; rfl))
         intro gb474 hg w51 hbox hb
         have HS0_ := (hb.cell (Kf _ _ (hHeld.1))).trans (hHeld.1)
         have HS1_ := (hb.cell (Kf _ _ (hHeld.2.1))).trans (hHeld.2.1)
         have HS2_ := (hb.cell (Kf _ _ (hHeld.2.2.1))).trans (hHeld.2.2.1)
         have HS3_ := (hb.cell (Kf _ _ (hHeld.2.2.2.1))).trans (hHeld.2.2.2.1)
         have HS4_ := (hb.cell (Kf _ _ (hHeld.2.2.2.2.1))).trans (hHeld.2.2.2.2.1)
         have HS5_ := (hb.cell (Kf _ _ (hHeld.2.2.2.2.2.1))).trans (hHeld.2.2.2.2.2.1)
         have HS6_ := (hb.cell (Kf _ _ (hHeld.2.2.2.2.2.2))).trans (hHeld.2.2.2.2.2.2)
         have n0_ := am (Ko (Kd.R_elderB (rB HO_5.out) gb474 (Nat.le_of_eq hg.symm)) hb)
         have n1_ := am (Ko (Kd.R_elderB (rB HO_6.out) gb474 (Nat.le_of_eq hg.symm)) hb)
         have n2_ := am (IsS92.below (iS HI452.out) hb)
         have n3_ := am (Kh (sG (IsS92.ge HI452.out) HB.out) hb)
         have n4_ := am (hbox)
         have n5_ := am ((by rw [hg]; exact (below_size (sG (IsS92.ge HI452.out) HB.out)) : w.heap.size ≤ gb474))
         have n6_ := am ((by rw [hg]; exact (below_size (sG (IsS92.ge HI452.out) HB.out)) : w.heap.size ≤ gb474))
         have n7_ := am ((by rw [hg]; exact Nat.ne_of_lt (IsS92.lt (show IsS92 w _ g452 t449 t464 t465 from (iS HI452.out))) : g452 ≠ gb474))
         have n8_ := am ((by rw [hg]; exact Nat.ne_of_gt (IsS92.lt (show IsS92 w _ g452 t449 t464 t465 from (iS HI452.out))) : gb474 ≠ g452))
         clear HO_5
         clear HO_6
         clear HI452
         clear HB
         have HO_5 := n0_
         have HO_6 := n1_
         have HI452 := n2_
         have HB := n3_
         have BK474 := n4_
         have GW474 := n5_
         have GE474 := n6_
         have NB452_474 := n7_
         have NB474_452 := n8_
         clear n0_ n1_ n2_ n3_ n4_ n5_ n6_ n7_ n8_
         clear hb hbox hg
         refine hK.out _ _ ⟨HS0_, HS1_, HS2_, HS3_, HS4_, HS5_, HS6_⟩ (fun hHeld => ?_)
         clear hK K
         refine norm_ (a' := ?_) ?_ ?_
         rotate_left
         ·show Act.put _ (some 8) _ = _
          simp only [Act.put, qa, qb, qc, i64_w, i32_w]
          rfl
         exact norm_ (by simp only [putAll, Act.put, List.setIfInBounds_toArray, List.set_cons_zero, List.set_cons_succ]) (hCont (gb474) _ ⟨hHeld, (rB HO_5.out), (rB HO_6.out), (bB BK474.out), GW474.out, GE474.out, NB452_474.out, NB474_452.out, (iT NB452_474.out HI452.out), (by repeat (first | (with_reducible first | exact HB.out | apply Ky | apply Kj | apply Ks | refine Ki ?_ (IsS92.ge HI452.out) | refine Ki ?_ GE474.out) | exact HB.out))⟩)
        ·skip
         refine box_step ?hg (N := 8) ?hd (cs := #[.int .i64 0, .int .i64 0, .int .i64 0, .int .i64 0, .int .i64 0, .int .i64 0, .bool false]) (t := 35) ?hr ?_; (case hd => rfl); (case hg => rfl); (case hr => first | (go_simp; done) | (go_simp; rfl))
         intro gb474 hg w50 hbox hb
         have HS0_ := (hb.cell (Kf _ _ (hHeld.1))).trans (hHeld.1)
         have HS1_ := (hb.cell (Kf _ _ (hHeld.2.1))).trans (hHeld.2.1)
         have HS2_ := (hb.cell (Kf _ _ (hHeld.2.2.1))).trans (hHeld.2.2.1)
         have HS3_ := (hb.cell (Kf _ _ (hHeld.2.2.2.1))).trans (hHeld.2.2.2.1)
         have HS4_ := (hb.cell (Kf _ _ (hHeld.2.2.2.2.1))).trans (hHeld.2.2.2.2.1)
         have HS5_ := (hb.cell (Kf _ _ (hHeld.2.2.2.2.2.1))).trans (hHeld.2.2.2.2.2.1)
         have HS6_ := (hb.cell (Kf _ _ (hHeld.2.2.2.2.2.2))).trans (hHeld.2.2.2.2.2.2)
         have n0_ := am (Ko (Kd.R_elderB (rB HO_5.out) gb474 (Nat.le_of_eq hg.symm)) hb)
         have n1_ := am (Ko (Kd.R_elderB (rB HO_6.out) gb474 (Nat.le_of_eq hg.symm)) hb)
         have n2_ := am (IsS92.below (iS HI452.out) hb)
         have n3_ := am (Kh (sG (IsS92.ge HI452.out) HB.out) hb)
         have n4_ := am (hbox)
         have n5_ := am ((by rw [hg]; exact (below_size (sG (IsS92.ge HI452.out) HB.out)) : w.heap.size ≤ gb474))
         have n6_ := am ((by rw [hg]; exact (below_size (sG (IsS92.ge HI452.out) HB.out)) : w.heap.size ≤ gb474))
         have n7_ := am ((by rw [hg]; exact Nat.ne_of_lt (IsS92.lt (show IsS92 w _ g452 t449 t464 t465 from (iS HI452.out))) : g452 ≠ gb474))
         have n8_ := am ((by rw [hg]; exact Nat.ne_of_gt (IsS92.lt (show IsS92 w _ g452 t449 t464 t465 from (iS HI452.out))) : gb474 ≠ g452))
         clear HO_5
         clear HO_6
         clear HI452
         clear HB
         have HO_5 := n0_
         have HO_6 := n1_
         have HI452 := n2_
         have HB := n3_
         have BK474 := n4_
         have GW474 := n5_
         have GE474 := n6_
         have NB452_474 := n7_
         have NB474_452 := n8_
         clear n0_ n1_ n2_ n3_ n4_ n5_ n6_ n7_ n8_
         clear hb hbox hg
         refine hK.out _ _ ⟨HS0_, HS1_, HS2_, HS3_, HS4_, HS5_, HS6_⟩ (fun hHeld => ?_)
         clear hK K
         refine norm_ (a' := ?_) ?_ ?_
         rotate_left
         ·show Act.put _ (some 8) _ = _
          simp only [Act.put, qa, qb, qc, i64_w, i32_w]
          rfl
         refine one_ (i := 6) (N := some 28) #[o,o,o,o,o,o,o,z,z,z,o,z,z] rfl rfl (one_of HT_.out (by kernel_rfl)) (by decide) (fun K hK => ?_)
         refine gS Try.func47 #[.agg #[.int .i64 ((rd_T35 t453 x7_1).f0), .int .i64 ((rd_T35 t453 x7_1).f1.f0), .int .i64 ((rd_T35 t453 x7_1).f1.f1), .int .i64 ((rd_T35 t453 x7_1).f2), .int .i64 ((rd_T35 t453 x7_1).f3), .int .i64 ((rd_T35 t453 x7_1).f4), .bool ((rd_T35 t453 x7_1).f5)], .agg #[.int .i64 t462, .int .i64 t463]] ?_
         with_reducible refine (spec_NarrowGrant.calls k1 ((rd_T35 t453 x7_1).f0) ((rd_T35 t453 x7_1).f1.f0) ((rd_T35 t453 x7_1).f1.f1) ((rd_T35 t453 x7_1).f2) ((rd_T35 t453 x7_1).f3) ((rd_T35 t453 x7_1).f4) ((rd_T35 t453 x7_1).f5) t462 t463 t466 t467 t468 t469 t470 t471 t472 false _ A11.out).mono ?_
         rintro e w51 ⟨rfl, hb⟩
         have HS0_ := (hb.cell (Kf _ _ (hHeld.1))).trans (hHeld.1)
         have HS1_ := (hb.cell (Kf _ _ (hHeld.2.1))).trans (hHeld.2.1)
         have HS2_ := (hb.cell (Kf _ _ (hHeld.2.2.1))).trans (hHeld.2.2.1)
         have HS3_ := (hb.cell (Kf _ _ (hHeld.2.2.2.1))).trans (hHeld.2.2.2.1)
         have HS4_ := (hb.cell (Kf _ _ (hHeld.2.2.2.2.1))).trans (hHeld.2.2.2.2.1)
         have HS5_ := (hb.cell (Kf _ _ (hHeld.2.2.2.2.2.1))).trans (hHeld.2.2.2.2.2.1)
         have HS6_ := (hb.cell (Kf _ _ (hHeld.2.2.2.2.2.2))).trans (hHeld.2.2.2.2.2.2)
         refine ⟨_, rfl, ?_⟩
         have n0_ := am (Ko (rB HO_5.out) hb)
         have n1_ := am (Ko (rB HO_6.out) hb)
         have n2_ := am (IsS92.below (iT NB452_474.out HI452.out) hb)
         have n3_ := am (Kb (bB BK474.out) hb)
         have n4_ := am (Kh (by repeat (first | (with_reducible first | exact HB.out | apply Ky | apply Kj | apply Ks | refine Ki ?_ (IsS92.ge HI452.out) | refine Ki ?_ GE474.out) | exact HB.out)) hb)
         clear HO_5
         clear HO_6
         clear HI452
         clear BK474
         clear HB
         have HO_5 := n0_
         have HO_6 := n1_
         have HI452 := n2_
         have BK474 := n3_
         have HB := n4_
         clear n0_ n1_ n2_ n3_ n4_
         (try clear hb)
         (try clear hb2)
         (try clear hk)
         (try clear hi)
         refine hK.out _ _ ⟨HS0_, HS1_, HS2_, HS3_, HS4_, HS5_, HS6_⟩ (fun hHeld => ?_)
         clear hK K
         refine norm_ (a' := ?_) ?_ ?_
         rotate_left
         ·show Act.put _ (some 28) _ = _
          simp only [Act.put, qa, qb, qc, i64_w, i32_w]
          rfl
         refine pu 7 21 #[o,o,o,o,o,o,o,o,z,z,o,z,z] HT_ ?_
         refine pu 8 29 #[o,o,o,o,o,o,o,o,o,z,o,z,z] HT_ ?_
         refine pu 9 30 #[o,o,o,o,o,o,o,o,o,o,o,z,z] HT_ ?_
         exact norm_ (by simp only [putAll, Act.put, List.setIfInBounds_toArray, List.set_cons_zero, List.set_cons_succ]) (hCont (gb474) _ ⟨hHeld, (rB HO_5.out), (rB HO_6.out), (bB BK474.out), GW474.out, GE474.out, NB452_474.out, NB474_452.out, (iT NB452_474.out HI452.out), (by repeat (first | (with_reducible first | exact HB.out | apply Ky | apply Kj | apply Ks | refine Ki ?_ (IsS92.ge HI452.out) | refine Ki ?_ GE474.out) | exact HB.out))⟩)
       ·skip
        refine box_step ?hg (N := 8) ?hd (cs := #[.int .i64 0, .int .i64 0, .int .i64 0, .int .i64 0, .int .i64 0, .int .i64 0, .bool false]) (t := 35) ?hr ?_; (case hd => rfl); (case hg => rfl); (case hr => first | (go_simp; done) | (go_simp; rfl))
        intro gb474 hg w49 hbox hb
        have HS0_ := (hb.cell (Kf _ _ (hHeld.1))).trans (hHeld.1)
        have HS1_ := (hb.cell (Kf _ _ (hHeld.2.1))).trans (hHeld.2.1)
        have HS2_ := (hb.cell (Kf _ _ (hHeld.2.2.1))).trans (hHeld.2.2.1)
        have HS3_ := (hb.cell (Kf _ _ (hHeld.2.2.2.1))).trans (hHeld.2.2.2.1)
        have HS4_ := (hb.cell (Kf _ _ (hHeld.2.2.2.2.1))).trans (hHeld.2.2.2.2.1)
        have HS5_ := (hb.cell (Kf _ _ (hHeld.2.2.2.2.2.1))).trans (hHeld.2.2.2.2.2.1)
        have HS6_ := (hb.cell (Kf _ _ (hHeld.2.2.2.2.2.2))).trans (hHeld.2.2.2.2.2.2)
        have n0_ := am (Ko (Kd.R_elderB (rB HO_5.out) gb474 (Nat.le_of_eq hg.symm)) hb)
        have n1_ := am (Ko (Kd.R_elderB (rB HO_6.out) gb474 (Nat.le_of_eq hg.symm)) hb)
        have n2_ := am (IsS92.below (iS HI452.out) hb)
        have n3_ := am (Kh (sG (IsS92.ge HI452.out) HB.out) hb)
        have n4_ := am (hbox)
        have n5_ := am ((by rw [hg]; exact (below_size (sG (IsS92.ge HI452.out) HB.out)) : w.heap.size ≤ gb474))
        have n6_ := am ((by rw [hg]; exact (below_size (sG (IsS92.ge HI452.out) HB.out)) : w.heap.size ≤ gb474))
        have n7_ := am ((by rw [hg]; exact Nat.ne_of_lt (IsS92.lt (show IsS92 w _ g452 t449 x453001_1 x453002_1 from (iS HI452.out))) : g452 ≠ gb474))
        have n8_ := am ((by rw [hg]; exact Nat.ne_of_gt (IsS92.lt (show IsS92 w _ g452 t449 x453001_1 x453002_1 from (iS HI452.out))) : gb474 ≠ g452))
        clear HO_5
        clear HO_6
        clear HI452
        clear HB
        have HO_5 := n0_
        have HO_6 := n1_
        have HI452 := n2_
        have HB := n3_
        have BK474 := n4_
        have GW474 := n5_
        have GE474 := n6_
        have NB452_474 := n7_
        have NB474_452 := n8_
        clear n0_ n1_ n2_ n3_ n4_ n5_ n6_ n7_ n8_
        clear hb hbox hg
        refine hK.out _ _ ⟨HS0_, HS1_, HS2_, HS3_, HS4_, HS5_, HS6_⟩ (fun hHeld => ?_)
        clear hK K
        refine norm_ (a' := ?_) ?_ ?_
        rotate_left
        ·show Act.put _ (some 8) _ = _
         simp only [Act.put, qa, qb, qc, i64_w, i32_w]
         rfl
        refine one_ (i := 5) (N := some 27) #[o,o,o,o,o,o,z,z,z,z,o,z,z] rfl rfl (one_of HT_.out (by kernel_rfl)) (by decide) (fun K hK => ?_)
        refine gS Try.func48 #[.pointer (some ⟨g452, 0, none⟩)] ?_
        with_reducible refine (spec_l9Pattern.calls g452 t449 x453001_1 x453002_1 t462 t463 t464 t465 w _ ?side1 ?side2 A10.out).mono ?_
        (case side1 => exact iT NB452_474.out HI452.out)
        (case side2 => repeat (first | (with_reducible first | exact HB.out | apply Ky | apply Kj | apply Ks | refine Ki ?_ (IsS92.ge HI452.out) | refine Ki ?_ GE474.out) | exact HB.out))
        rintro e w50 ⟨rfl, hi, hb, hk⟩
        have HS0_ := keep_cell hk (hHeld.1) (by first | (rw [Ke]; exact Ka (IsS92.own_ne HI452.out HO_5.out (by decide))) | (show (Addr.add _ _).block ≠ _; rw [Ke]; exact Ka (IsS92.own_ne HI452.out HO_5.out (by decide))) | exact Ka (IsS92.own_ne HI452.out HO_5.out (by decide)))
        have HS1_ := keep_cell hk (hHeld.2.1) (by first | (rw [Ke]; exact Ka (IsS92.own_ne HI452.out HO_5.out (by decide))) | (show (Addr.add _ _).block ≠ _; rw [Ke]; exact Ka (IsS92.own_ne HI452.out HO_5.out (by decide))) | exact Ka (IsS92.own_ne HI452.out HO_5.out (by decide)))
        have HS2_ := keep_cell hk (hHeld.2.2.1) (by first | (rw [Ke]; exact Ka (IsS92.own_ne HI452.out HO_5.out (by decide))) | (show (Addr.add _ _).block ≠ _; rw [Ke]; exact Ka (IsS92.own_ne HI452.out HO_5.out (by decide))) | exact Ka (IsS92.own_ne HI452.out HO_5.out (by decide)))
        have HS3_ := keep_cell hk (hHeld.2.2.2.1) (by first | (rw [Ke]; exact Ka (IsS92.own_ne HI452.out HO_5.out (by decide))) | (show (Addr.add _ _).block ≠ _; rw [Ke]; exact Ka (IsS92.own_ne HI452.out HO_5.out (by decide))) | exact Ka (IsS92.own_ne HI452.out HO_5.out (by decide)))
        have HS4_ := keep_cell hk (hHeld.2.2.2.2.1) (by first | (rw [Ke]; exact Ka (IsS92.own_ne HI452.out HO_5.out (by decide))) | (show (Addr.add _ _).block ≠ _; rw [Ke]; exact Ka (IsS92.own_ne HI452.out HO_5.out (by decide))) | exact Ka (IsS92.own_ne HI452.out HO_5.out (by decide)))
        have HS5_ := keep_cell hk (hHeld.2.2.2.2.2.1) (by first | (rw [Ke]; exact Ka (IsS92.own_ne HI452.out HO_5.out (by decide))) | (show (Addr.add _ _).block ≠ _; rw [Ke]; exact Ka (IsS92.own_ne HI452.out HO_5.out (by decide))) | exact Ka (IsS92.own_ne HI452.out HO_5.out (by decide)))
        have HS6_ := keep_cell hk (hHeld.2.2.2.2.2.2) (by first | (rw [Ke]; exact Ka (IsS92.own_ne HI452.out HO_5.out (by decide))) | (show (Addr.add _ _).block ≠ _; rw [Ke]; exact Ka (IsS92.own_ne HI452.out HO_5.out (by decide))) | exact Ka (IsS92.own_ne HI452.out HO_5.out (by decide)))
        refine ⟨_, rfl, ?_⟩
        replace HO_5 := am (Kt (Kd.R_keep (IsS92.apart (show IsS92 w _ g452 t449 x453001_1 x453002_1 from (iT NB452_474.out HI452.out)) (rB HO_5.out) (by decide)) hk (fun _ h => h.2)) (fun _ h => h.1))
        replace HO_6 := am (Kt (Kd.R_keep (IsS92.apart (show IsS92 w _ g452 t449 x453001_1 x453002_1 from (iT NB452_474.out HI452.out)) (rB HO_6.out) (by decide)) hk (fun _ h => h.2)) (fun _ h => h.1))
        replace BK474 := am (Kv hk (bB BK474.out) NB474_452.out (by simp))
        replace HB := am (hb)
        replace HI452 := am (hi)
        (try clear hb)
        (try clear hb2)
        (try clear hk)
        (try clear hi)
        refine hK.out _ _ ⟨HS0_, HS1_, HS2_, HS3_, HS4_, HS5_, HS6_⟩ (fun hHeld => ?_)
        clear hK K
        refine norm_ (a' := ?_) ?_ ?_
        rotate_left
        ·show Act.put _ (some 27) _ = _
         simp only [Act.put, qa, qb, qc, i64_w, i32_w]
         rfl
        refine one_ (i := 6) (N := some 28) #[o,o,o,o,o,o,o,z,z,z,o,z,z] rfl rfl (one_of HT_.out (by kernel_rfl)) (by decide) (fun K hK => ?_)
        refine gS Try.func47 #[.agg #[.int .i64 ((rd_T35 t453 x7_1).f0), .int .i64 ((rd_T35 t453 x7_1).f1.f0), .int .i64 ((rd_T35 t453 x7_1).f1.f1), .int .i64 ((rd_T35 t453 x7_1).f2), .int .i64 ((rd_T35 t453 x7_1).f3), .int .i64 ((rd_T35 t453 x7_1).f4), .bool ((rd_T35 t453 x7_1).f5)], .agg #[.int .i64 t462, .int .i64 t463]] ?_
        with_reducible refine (spec_NarrowGrant.calls k1 ((rd_T35 t453 x7_1).f0) ((rd_T35 t453 x7_1).f1.f0) ((rd_T35 t453 x7_1).f1.f1) ((rd_T35 t453 x7_1).f2) ((rd_T35 t453 x7_1).f3) ((rd_T35 t453 x7_1).f4) ((rd_T35 t453 x7_1).f5) t462 t463 t466 t467 t468 t469 t470 t471 t472 false _ A11.out).mono ?_
        rintro e w51 ⟨rfl, hb⟩
        have HS0_ := (hb.cell (Kf _ _ (hHeld.1))).trans (hHeld.1)
        have HS1_ := (hb.cell (Kf _ _ (hHeld.2.1))).trans (hHeld.2.1)
        have HS2_ := (hb.cell (Kf _ _ (hHeld.2.2.1))).trans (hHeld.2.2.1)
        have HS3_ := (hb.cell (Kf _ _ (hHeld.2.2.2.1))).trans (hHeld.2.2.2.1)
        have HS4_ := (hb.cell (Kf _ _ (hHeld.2.2.2.2.1))).trans (hHeld.2.2.2.2.1)
        have HS5_ := (hb.cell (Kf _ _ (hHeld.2.2.2.2.2.1))).trans (hHeld.2.2.2.2.2.1)
        have HS6_ := (hb.cell (Kf _ _ (hHeld.2.2.2.2.2.2))).trans (hHeld.2.2.2.2.2.2)
        refine ⟨_, rfl, ?_⟩
        have n0_ := am (Ko (rB HO_5.out) hb)
        have n1_ := am (Ko (rB HO_6.out) hb)
        have n2_ := am (IsS92.below (iT NB452_474.out HI452.out) hb)
        have n3_ := am (Kb (bB BK474.out) hb)
        have n4_ := am (Kh (by repeat (first | (with_reducible first | exact HB.out | apply Ky | apply Kj | apply Ks | refine Ki ?_ (IsS92.ge HI452.out) | refine Ki ?_ GE474.out) | exact HB.out)) hb)
        clear HO_5
        clear HO_6
        clear HI452
        clear BK474
        clear HB
        have HO_5 := n0_
        have HO_6 := n1_
        have HI452 := n2_
        have BK474 := n3_
        have HB := n4_
        clear n0_ n1_ n2_ n3_ n4_
        (try clear hb)
        (try clear hb2)
        (try clear hk)
        (try clear hi)
        refine hK.out _ _ ⟨HS0_, HS1_, HS2_, HS3_, HS4_, HS5_, HS6_⟩ (fun hHeld => ?_)
        clear hK K
        refine norm_ (a' := ?_) ?_ ?_
        rotate_left
        ·show Act.put _ (some 28) _ = _
         simp only [Act.put, qa, qb, qc, i64_w, i32_w]
         rfl
        refine pu 7 21 #[o,o,o,o,o,o,o,o,z,z,o,z,z] HT_ ?_
        refine pu 8 29 #[o,o,o,o,o,o,o,o,o,z,o,z,z] HT_ ?_
        refine pu 9 30 #[o,o,o,o,o,o,o,o,o,o,o,z,z] HT_ ?_
        exact norm_ (by simp only [putAll, Act.put, List.setIfInBounds_toArray, List.set_cons_zero, List.set_cons_succ]) (hCont (gb474) _ ⟨hHeld, (rB HO_5.out), (rB HO_6.out), (bB BK474.out), GW474.out, GE474.out, NB452_474.out, NB474_452.out, (iT NB452_474.out HI452.out), (by repeat (first | (with_reducible first | exact HB.out | apply Ky | apply Kj | apply Ks | refine Ki ?_ (IsS92.ge HI452.out) | refine Ki ?_ GE474.out) | exact HB.out))⟩)
      rintro gb474 w52 ⟨hS_, h0_, h1_, h2_, h3_, h4_, h5_, h6_, h7_, h8_⟩
      have n0_ : Aside0 (Kd.R k35 35 w52 w.heap.size (fun k_ => some k_ ≠ (u6 : Value).ownBlock ∧ k_ ≠ gb474) (.slice (some ad461) t453.length co47) t453) := ⟨h0_⟩
      have n1_ : Aside0 (Kd.R k35 35 w52 w.heap.size (fun k_ => some k_ ≠ (.slice (some ad461) t453.length co47 : Value).ownBlock ∧ k_ ≠ gb474) u6 x6_1) := ⟨h1_⟩
      have n2_ : Aside0 (w52.heap[gb474]? = some (.cells #[.int .i64 0, .int .i64 0, .int .i64 0, .int .i64 0, .int .i64 0, .int .i64 0, .bool false] 35 (0, 0))) := ⟨h2_⟩
      have n3_ : Aside0 (w.heap.size ≤ gb474) := ⟨h3_⟩
      have n4_ : Aside0 (w.heap.size ≤ gb474) := ⟨h4_⟩
      have n5_ : Aside0 (g452 ≠ gb474) := ⟨h5_⟩
      have n6_ : Aside0 (gb474 ≠ g452) := ⟨h6_⟩
      have n7_ : Aside0 (IsS92 w w52 g452 t449 t464 t465) := ⟨h7_⟩
      have n8_ : Aside0 (Below w.heap.size w w52) := ⟨h8_⟩
      clear HO_5
      clear HO_6
      clear HI452
      clear HB
      clear h0_ h1_ h2_ h3_ h4_ h5_ h6_ h7_ h8_
      have HO_5 := n0_
      have HO_6 := n1_
      have BK474 := n2_
      have GW474 := n3_
      have GE474 := n4_
      have NB452_474 := n5_
      have NB474_452 := n6_
      have HI452 := n7_
      have HB := n8_
      clear n0_ n1_ n2_ n3_ n4_ n5_ n6_ n7_ n8_
      have hHeld : w52.cell? (ad461.add ((x7_1).toNat * 7)) = some (.int .i64 ((rd_T35 t453 x7_1).f0)) ∧ w52.cell? ⟨(ad461.add ((x7_1).toNat * 7)).block, (ad461.add ((x7_1).toNat * 7)).off + 1, none⟩ = some (.int .i64 ((rd_T35 t453 x7_1).f1.f0)) ∧ w52.cell? ⟨(ad461.add ((x7_1).toNat * 7)).block, (ad461.add ((x7_1).toNat * 7)).off + 2, none⟩ = some (.int .i64 ((rd_T35 t453 x7_1).f1.f1)) ∧ w52.cell? ⟨(ad461.add ((x7_1).toNat * 7)).block, (ad461.add ((x7_1).toNat * 7)).off + 3, none⟩ = some (.int .i64 ((rd_T35 t453 x7_1).f2)) ∧ w52.cell? ⟨(ad461.add ((x7_1).toNat * 7)).block, (ad461.add ((x7_1).toNat * 7)).off + 4, none⟩ = some (.int .i64 ((rd_T35 t453 x7_1).f3)) ∧ w52.cell? ⟨(ad461.add ((x7_1).toNat * 7)).block, (ad461.add ((x7_1).toNat * 7)).off + 5, none⟩ = some (.int .i64 ((rd_T35 t453 x7_1).f4)) ∧ w52.cell? ⟨(ad461.add ((x7_1).toNat * 7)).block, (ad461.add ((x7_1).toNat * 7)).off + 6, none⟩ = some (.bool ((rd_T35 t453 x7_1).f5)) := hS_
      refine norm_ (a' := ?_) ?_ ?_
      rotate_left
      ·simp only [putAll, Act.put, List.setIfInBounds_toArray, List.set_cons_zero, List.set_cons_succ]
       rfl
      refine one_ (i := 11) (N := none) #[o,o,o,o,o,o,o,o,o,o,o,o,z] rfl rfl (one_of HT_.out (by kernel_rfl)) (by decide) (fun K hK => ?_)
      have hs53 : w52.cell? ⟨gb474, 0, none⟩ = some (.int .i64 0) := (Kk BK474.out 0).trans rfl
      have hfs53 := Kr BK474.out 0
      have hs54 : w52.cell? ⟨gb474, 1, none⟩ = some (.int .i64 0) := (Kk BK474.out 1).trans rfl
      have hfs54 := Kr BK474.out 1
      have hs55 : w52.cell? ⟨gb474, 2, none⟩ = some (.int .i64 0) := (Kk BK474.out 2).trans rfl
      have hfs55 := Kr BK474.out 2
      have hs56 : w52.cell? ⟨gb474, 3, none⟩ = some (.int .i64 0) := (Kk BK474.out 3).trans rfl
      have hfs56 := Kr BK474.out 3
      have hs57 : w52.cell? ⟨gb474, 4, none⟩ = some (.int .i64 0) := (Kk BK474.out 4).trans rfl
      have hfs57 := Kr BK474.out 4
      have hs58 : w52.cell? ⟨gb474, 5, none⟩ = some (.int .i64 0) := (Kk BK474.out 5).trans rfl
      have hfs58 := Kr BK474.out 5
      have hs59 : w52.cell? ⟨gb474, 6, none⟩ = some (.bool false) := (Kk BK474.out 6).trans rfl
      have hfs59 := Kr BK474.out 6
      refine skip_ (w1 := ?_) (by rfl) rfl ?_ ?_
      rotate_left
      ·go_simp
       rfl
      refine hK.out _ _ ⟨((Kn (p := ⟨gb474, _, none⟩) (by first | exact Ka (Kc HO_5.out (fun _ hk => hk.2)) | (rw [Ke]; exact Ka (Kc HO_5.out (fun _ hk => hk.2))) | (show (Addr.add _ _).block ≠ _; rw [Ke]; exact Ka (Kc HO_5.out (fun _ hk => hk.2))) | (dsimp only; exact Ka (Kc HO_5.out (fun _ hk => hk.2)))) _).trans (((Kn (p := ⟨gb474, _, none⟩) (by first | exact Ka (Kc HO_5.out (fun _ hk => hk.2)) | (rw [Ke]; exact Ka (Kc HO_5.out (fun _ hk => hk.2))) | (show (Addr.add _ _).block ≠ _; rw [Ke]; exact Ka (Kc HO_5.out (fun _ hk => hk.2))) | (dsimp only; exact Ka (Kc HO_5.out (fun _ hk => hk.2)))) _).trans (((Kn (p := ⟨gb474, _, none⟩) (by first | exact Ka (Kc HO_5.out (fun _ hk => hk.2)) | (rw [Ke]; exact Ka (Kc HO_5.out (fun _ hk => hk.2))) | (show (Addr.add _ _).block ≠ _; rw [Ke]; exact Ka (Kc HO_5.out (fun _ hk => hk.2))) | (dsimp only; exact Ka (Kc HO_5.out (fun _ hk => hk.2)))) _).trans (((Kn (p := ⟨gb474, _, none⟩) (by first | exact Ka (Kc HO_5.out (fun _ hk => hk.2)) | (rw [Ke]; exact Ka (Kc HO_5.out (fun _ hk => hk.2))) | (show (Addr.add _ _).block ≠ _; rw [Ke]; exact Ka (Kc HO_5.out (fun _ hk => hk.2))) | (dsimp only; exact Ka (Kc HO_5.out (fun _ hk => hk.2)))) _).trans (((Kn (p := ⟨gb474, _, none⟩) (by first | exact Ka (Kc HO_5.out (fun _ hk => hk.2)) | (rw [Ke]; exact Ka (Kc HO_5.out (fun _ hk => hk.2))) | (show (Addr.add _ _).block ≠ _; rw [Ke]; exact Ka (Kc HO_5.out (fun _ hk => hk.2))) | (dsimp only; exact Ka (Kc HO_5.out (fun _ hk => hk.2)))) _).trans (((Kn (p := ⟨gb474, _, none⟩) (by first | exact Ka (Kc HO_5.out (fun _ hk => hk.2)) | (rw [Ke]; exact Ka (Kc HO_5.out (fun _ hk => hk.2))) | (show (Addr.add _ _).block ≠ _; rw [Ke]; exact Ka (Kc HO_5.out (fun _ hk => hk.2))) | (dsimp only; exact Ka (Kc HO_5.out (fun _ hk => hk.2)))) _).trans (((Kn (p := ⟨gb474, _, none⟩) (by first | exact Ka (Kc HO_5.out (fun _ hk => hk.2)) | (rw [Ke]; exact Ka (Kc HO_5.out (fun _ hk => hk.2))) | (show (Addr.add _ _).block ≠ _; rw [Ke]; exact Ka (Kc HO_5.out (fun _ hk => hk.2))) | (dsimp only; exact Ka (Kc HO_5.out (fun _ hk => hk.2)))) _).trans (hHeld.1)))))))))))))), ((Kn (p := ⟨gb474, _, none⟩) (by first | exact Ka (Kc HO_5.out (fun _ hk => hk.2)) | (rw [Ke]; exact Ka (Kc HO_5.out (fun _ hk => hk.2))) | (show (Addr.add _ _).block ≠ _; rw [Ke]; exact Ka (Kc HO_5.out (fun _ hk => hk.2))) | (dsimp only; exact Ka (Kc HO_5.out (fun _ hk => hk.2)))) _).trans (((Kn (p := ⟨gb474, _, none⟩) (by first | exact Ka (Kc HO_5.out (fun _ hk => hk.2)) | (rw [Ke]; exact Ka (Kc HO_5.out (fun _ hk => hk.2))) | (show (Addr.add _ _).block ≠ _; rw [Ke]; exact Ka (Kc HO_5.out (fun _ hk => hk.2))) | (dsimp only; exact Ka (Kc HO_5.out (fun _ hk => hk.2)))) _).trans (((Kn (p := ⟨gb474, _, none⟩) (by first | exact Ka (Kc HO_5.out (fun _ hk => hk.2)) | (rw [Ke]; exact Ka (Kc HO_5.out (fun _ hk => hk.2))) | (show (Addr.add _ _).block ≠ _; rw [Ke]; exact Ka (Kc HO_5.out (fun _ hk => hk.2))) | (dsimp only; exact Ka (Kc HO_5.out (fun _ hk => hk.2)))) _).trans (((Kn (p := ⟨gb474, _, none⟩) (by first | exact Ka (Kc HO_5.out (fun _ hk => hk.2)) | (rw [Ke]; exact Ka (Kc HO_5.out (fun _ hk => hk.2))) | (show (Addr.add _ _).block ≠ _; rw [Ke]; exact Ka (Kc HO_5.out (fun _ hk => hk.2))) | (dsimp only; exact Ka (Kc HO_5.out (fun _ hk => hk.2)))) _).trans (((Kn (p := ⟨gb474, _, none⟩) (by first | exact Ka (Kc HO_5.out (fun _ hk => hk.2)) | (rw [Ke]; exact Ka (Kc HO_5.out (fun _ hk => hk.2))) | (show (Addr.add _ _).block ≠ _; rw [Ke]; exact Ka (Kc HO_5.out (fun _ hk => hk.2))) | (dsimp only; exact Ka (Kc HO_5.out (fun _ hk => hk.2)))) _).trans (((Kn (p := ⟨gb474, _, none⟩) (by first | exact Ka (Kc HO_5.out (fun _ hk => hk.2)) | (rw [Ke]; exact Ka (Kc HO_5.out (fun _ hk => hk.2))) | (show (Addr.add _ _).block ≠ _; rw [Ke]; exact Ka (Kc HO_5.out (fun _ hk => hk.2))) | (dsimp only; exact Ka (Kc HO_5.out (fun _ hk => hk.2)))) _).trans (((Kn (p := ⟨gb474, _, none⟩) (by first | exact Ka (Kc HO_5.out (fun _ hk => hk.2)) | (rw [Ke]; exact Ka (Kc HO_5.out (fun _ hk => hk.2))) | (show (Addr.add _ _).block ≠ _; rw [Ke]; exact Ka (Kc HO_5.out (fun _ hk => hk.2))) | (dsimp only; exact Ka (Kc HO_5.out (fun _ hk => hk.2)))) _).trans (hHeld.2.1)))))))))))))), ((Kn (p := ⟨gb474, _, none⟩) (by first | exact Ka (Kc HO_5.out (fun _ hk => hk.2)) | (rw [Ke]; exact Ka (Kc HO_5.out (fun _ hk => hk.2))) | (show (Addr.add _ _).block ≠ _; rw [Ke]; exact Ka (Kc HO_5.out (fun _ hk => hk.2))) | (dsimp only; exact Ka (Kc HO_5.out (fun _ hk => hk.2)))) _).trans (((Kn (p := ⟨gb474, _, none⟩) (by first | exact Ka (Kc HO_5.out (fun _ hk => hk.2)) | (rw [Ke]; exact Ka (Kc HO_5.out (fun _ hk => hk.2))) | (show (Addr.add _ _).block ≠ _; rw [Ke]; exact Ka (Kc HO_5.out (fun _ hk => hk.2))) | (dsimp only; exact Ka (Kc HO_5.out (fun _ hk => hk.2)))) _).trans (((Kn (p := ⟨gb474, _, none⟩) (by first | exact Ka (Kc HO_5.out (fun _ hk => hk.2)) | (rw [Ke]; exact Ka (Kc HO_5.out (fun _ hk => hk.2))) | (show (Addr.add _ _).block ≠ _; rw [Ke]; exact Ka (Kc HO_5.out (fun _ hk => hk.2))) | (dsimp only; exact Ka (Kc HO_5.out (fun _ hk => hk.2)))) _).trans (((Kn (p := ⟨gb474, _, none⟩) (by first | exact Ka (Kc HO_5.out (fun _ hk => hk.2)) | (rw [Ke]; exact Ka (Kc HO_5.out (fun _ hk => hk.2))) | (show (Addr.add _ _).block ≠ _; rw [Ke]; exact Ka (Kc HO_5.out (fun _ hk => hk.2))) | (dsimp only; exact Ka (Kc HO_5.out (fun _ hk => hk.2)))) _).trans (((Kn (p := ⟨gb474, _, none⟩) (by first | exact Ka (Kc HO_5.out (fun _ hk => hk.2)) | (rw [Ke]; exact Ka (Kc HO_5.out (fun _ hk => hk.2))) | (show (Addr.add _ _).block ≠ _; rw [Ke]; exact Ka (Kc HO_5.out (fun _ hk => hk.2))) | (dsimp only; exact Ka (Kc HO_5.out (fun _ hk => hk.2)))) _).trans (((Kn (p := ⟨gb474, _, none⟩) (by first | exact Ka (Kc HO_5.out (fun _ hk => hk.2)) | (rw [Ke]; exact Ka (Kc HO_5.out (fun _ hk => hk.2))) | (show (Addr.add _ _).block ≠ _; rw [Ke]; exact Ka (Kc HO_5.out (fun _ hk => hk.2))) | (dsimp only; exact Ka (Kc HO_5.out (fun _ hk => hk.2)))) _).trans (((Kn (p := ⟨gb474, _, none⟩) (by first | exact Ka (Kc HO_5.out (fun _ hk => hk.2)) | (rw [Ke]; exact Ka (Kc HO_5.out (fun _ hk => hk.2))) | (show (Addr.add _ _).block ≠ _; rw [Ke]; exact Ka (Kc HO_5.out (fun _ hk => hk.2))) | (dsimp only; exact Ka (Kc HO_5.out (fun _ hk => hk.2)))) _).trans (hHeld.2.2.1)))))))))))))), ((Kn (p := ⟨gb474, _, none⟩) (by first | exact Ka (Kc HO_5.out (fun _ hk => hk.2)) | (rw [Ke]; exact Ka (Kc HO_5.out (fun _ hk => hk.2))) | (show (Addr.add _ _).block ≠ _; rw [Ke]; exact Ka (Kc HO_5.out (fun _ hk => hk.2))) | (dsimp only; exact Ka (Kc HO_5.out (fun _ hk => hk.2)))) _).trans (((Kn (p := ⟨gb474, _, none⟩) (by first | exact Ka (Kc HO_5.out (fun _ hk => hk.2)) | (rw [Ke]; exact Ka (Kc HO_5.out (fun _ hk => hk.2))) | (show (Addr.add _ _).block ≠ _; rw [Ke]; exact Ka (Kc HO_5.out (fun _ hk => hk.2))) | (dsimp only; exact Ka (Kc HO_5.out (fun _ hk => hk.2)))) _).trans (((Kn (p := ⟨gb474, _, none⟩) (by first | exact Ka (Kc HO_5.out (fun _ hk => hk.2)) | (rw [Ke]; exact Ka (Kc HO_5.out (fun _ hk => hk.2))) | (show (Addr.add _ _).block ≠ _; rw [Ke]; exact Ka (Kc HO_5.out (fun _ hk => hk.2))) | (dsimp only; exact Ka (Kc HO_5.out (fun _ hk => hk.2)))) _).trans (((Kn (p := ⟨gb474, _, none⟩) (by first | exact Ka (Kc HO_5.out (fun _ hk => hk.2)) | (rw [Ke]; exact Ka (Kc HO_5.out (fun _ hk => hk.2))) | (show (Addr.add _ _).block ≠ _; rw [Ke]; exact Ka (Kc HO_5.out (fun _ hk => hk.2))) | (dsimp only; exact Ka (Kc HO_5.out (fun _ hk => hk.2)))) _).trans (((Kn (p := ⟨gb474, _, none⟩) (by first | exact Ka (Kc HO_5.out (fun _ hk => hk.2)) | (rw [Ke]; exact Ka (Kc HO_5.out (fun _ hk => hk.2))) | (show (Addr.add _ _).block ≠ _; rw [Ke]; exact Ka (Kc HO_5.out (fun _ hk => hk.2))) | (dsimp only; exact Ka (Kc HO_5.out (fun _ hk => hk.2)))) _).trans (((Kn (p := ⟨gb474, _, none⟩) (by first | exact Ka (Kc HO_5.out (fun _ hk => hk.2)) | (rw [Ke]; exact Ka (Kc HO_5.out (fun _ hk => hk.2))) | (show (Addr.add _ _).block ≠ _; rw [Ke]; exact Ka (Kc HO_5.out (fun _ hk => hk.2))) | (dsimp only; exact Ka (Kc HO_5.out (fun _ hk => hk.2)))) _).trans (((Kn (p := ⟨gb474, _, none⟩) (by first | exact Ka (Kc HO_5.out (fun _ hk => hk.2)) | (rw [Ke]; exact Ka (Kc HO_5.out (fun _ hk => hk.2))) | (show (Addr.add _ _).block ≠ _; rw [Ke]; exact Ka (Kc HO_5.out (fun _ hk => hk.2))) | (dsimp only; exact Ka (Kc HO_5.out (fun _ hk => hk.2)))) _).trans (hHeld.2.2.2.1)))))))))))))), ((Kn (p := ⟨gb474, _, none⟩) (by first | exact Ka (Kc HO_5.out (fun _ hk => hk.2)) | (rw [Ke]; exact Ka (Kc HO_5.out (fun _ hk => hk.2))) | (show (Addr.add _ _).block ≠ _; rw [Ke]; exact Ka (Kc HO_5.out (fun _ hk => hk.2))) | (dsimp only; exact Ka (Kc HO_5.out (fun _ hk => hk.2)))) _).trans (((Kn (p := ⟨gb474, _, none⟩) (by first | exact Ka (Kc HO_5.out (fun _ hk => hk.2)) | (rw [Ke]; exact Ka (Kc HO_5.out (fun _ hk => hk.2))) | (show (Addr.add _ _).block ≠ _; rw [Ke]; exact Ka (Kc HO_5.out (fun _ hk => hk.2))) | (dsimp only; exact Ka (Kc HO_5.out (fun _ hk => hk.2)))) _).trans (((Kn (p := ⟨gb474, _, none⟩) (by first | exact Ka (Kc HO_5.out (fun _ hk => hk.2)) | (rw [Ke]; exact Ka (Kc HO_5.out (fun _ hk => hk.2))) | (show (Addr.add _ _).block ≠ _; rw [Ke]; exact Ka (Kc HO_5.out (fun _ hk => hk.2))) | (dsimp only; exact Ka (Kc HO_5.out (fun _ hk => hk.2)))) _).trans (((Kn (p := ⟨gb474, _, none⟩) (by first | exact Ka (Kc HO_5.out (fun _ hk => hk.2)) | (rw [Ke]; exact Ka (Kc HO_5.out (fun _ hk => hk.2))) | (show (Addr.add _ _).block ≠ _; rw [Ke]; exact Ka (Kc HO_5.out (fun _ hk => hk.2))) | (dsimp only; exact Ka (Kc HO_5.out (fun _ hk => hk.2)))) _).trans (((Kn (p := ⟨gb474, _, none⟩) (by first | exact Ka (Kc HO_5.out (fun _ hk => hk.2)) | (rw [Ke]; exact Ka (Kc HO_5.out (fun _ hk => hk.2))) | (show (Addr.add _ _).block ≠ _; rw [Ke]; exact Ka (Kc HO_5.out (fun _ hk => hk.2))) | (dsimp only; exact Ka (Kc HO_5.out (fun _ hk => hk.2)))) _).trans (((Kn (p := ⟨gb474, _, none⟩) (by first | exact Ka (Kc HO_5.out (fun _ hk => hk.2)) | (rw [Ke]; exact Ka (Kc HO_5.out (fun _ hk => hk.2))) | (show (Addr.add _ _).block ≠ _; rw [Ke]; exact Ka (Kc HO_5.out (fun _ hk => hk.2))) | (dsimp only; exact Ka (Kc HO_5.out (fun _ hk => hk.2)))) _).trans (((Kn (p := ⟨gb474, _, none⟩) (by first | exact Ka (Kc HO_5.out (fun _ hk => hk.2)) | (rw [Ke]; exact Ka (Kc HO_5.out (fun _ hk => hk.2))) | (show (Addr.add _ _).block ≠ _; rw [Ke]; exact Ka (Kc HO_5.out (fun _ hk => hk.2))) | (dsimp only; exact Ka (Kc HO_5.out (fun _ hk => hk.2)))) _).trans (hHeld.2.2.2.2.1)))))))))))))), ((Kn (p := ⟨gb474, _, none⟩) (by first | exact Ka (Kc HO_5.out (fun _ hk => hk.2)) | (rw [Ke]; exact Ka (Kc HO_5.out (fun _ hk => hk.2))) | (show (Addr.add _ _).block ≠ _; rw [Ke]; exact Ka (Kc HO_5.out (fun _ hk => hk.2))) | (dsimp only; exact Ka (Kc HO_5.out (fun _ hk => hk.2)))) _).trans (((Kn (p := ⟨gb474, _, none⟩) (by first | exact Ka (Kc HO_5.out (fun _ hk => hk.2)) | (rw [Ke]; exact Ka (Kc HO_5.out (fun _ hk => hk.2))) | (show (Addr.add _ _).block ≠ _; rw [Ke]; exact Ka (Kc HO_5.out (fun _ hk => hk.2))) | (dsimp only; exact Ka (Kc HO_5.out (fun _ hk => hk.2)))) _).trans (((Kn (p := ⟨gb474, _, none⟩) (by first | exact Ka (Kc HO_5.out (fun _ hk => hk.2)) | (rw [Ke]; exact Ka (Kc HO_5.out (fun _ hk => hk.2))) | (show (Addr.add _ _).block ≠ _; rw [Ke]; exact Ka (Kc HO_5.out (fun _ hk => hk.2))) | (dsimp only; exact Ka (Kc HO_5.out (fun _ hk => hk.2)))) _).trans (((Kn (p := ⟨gb474, _, none⟩) (by first | exact Ka (Kc HO_5.out (fun _ hk => hk.2)) | (rw [Ke]; exact Ka (Kc HO_5.out (fun _ hk => hk.2))) | (show (Addr.add _ _).block ≠ _; rw [Ke]; exact Ka (Kc HO_5.out (fun _ hk => hk.2))) | (dsimp only; exact Ka (Kc HO_5.out (fun _ hk => hk.2)))) _).trans (((Kn (p := ⟨gb474, _, none⟩) (by first | exact Ka (Kc HO_5.out (fun _ hk => hk.2)) | (rw [Ke]; exact Ka (Kc HO_5.out (fun _ hk => hk.2))) | (show (Addr.add _ _).block ≠ _; rw [Ke]; exact Ka (Kc HO_5.out (fun _ hk => hk.2))) | (dsimp only; exact Ka (Kc HO_5.out (fun _ hk => hk.2)))) _).trans (((Kn (p := ⟨gb474, _, none⟩) (by first | exact Ka (Kc HO_5.out (fun _ hk => hk.2)) | (rw [Ke]; exact Ka (Kc HO_5.out (fun _ hk => hk.2))) | (show (Addr.add _ _).block ≠ _; rw [Ke]; exact Ka (Kc HO_5.out (fun _ hk => hk.2))) | (dsimp only; exact Ka (Kc HO_5.out (fun _ hk => hk.2)))) _).trans (((Kn (p := ⟨gb474, _, none⟩) (by first | exact Ka (Kc HO_5.out (fun _ hk => hk.2)) | (rw [Ke]; exact Ka (Kc HO_5.out (fun _ hk => hk.2))) | (show (Addr.add _ _).block ≠ _; rw [Ke]; exact Ka (Kc HO_5.out (fun _ hk => hk.2))) | (dsimp only; exact Ka (Kc HO_5.out (fun _ hk => hk.2)))) _).trans (hHeld.2.2.2.2.2.1)))))))))))))), ((Kn (p := ⟨gb474, _, none⟩) (by first | exact Ka (Kc HO_5.out (fun _ hk => hk.2)) | (rw [Ke]; exact Ka (Kc HO_5.out (fun _ hk => hk.2))) | (show (Addr.add _ _).block ≠ _; rw [Ke]; exact Ka (Kc HO_5.out (fun _ hk => hk.2))) | (dsimp only; exact Ka (Kc HO_5.out (fun _ hk => hk.2)))) _).trans (((Kn (p := ⟨gb474, _, none⟩) (by first | exact Ka (Kc HO_5.out (fun _ hk => hk.2)) | (rw [Ke]; exact Ka (Kc HO_5.out (fun _ hk => hk.2))) | (show (Addr.add _ _).block ≠ _; rw [Ke]; exact Ka (Kc HO_5.out (fun _ hk => hk.2))) | (dsimp only; exact Ka (Kc HO_5.out (fun _ hk => hk.2)))) _).trans (((Kn (p := ⟨gb474, _, none⟩) (by first | exact Ka (Kc HO_5.out (fun _ hk => hk.2)) | (rw [Ke]; exact Ka (Kc HO_5.out (fun _ hk => hk.2))) | (show (Addr.add _ _).block ≠ _; rw [Ke]; exact Ka (Kc HO_5.out (fun _ hk => hk.2))) | (dsimp only; exact Ka (Kc HO_5.out (fun _ hk => hk.2)))) _).trans (((Kn (p := ⟨gb474, _, none⟩) (by first | exact Ka (Kc HO_5.out (fun _ hk => hk.2)) | (rw [Ke]; exact Ka (Kc HO_5.out (fun _ hk => hk.2))) | (show (Addr.add _ _).block ≠ _; rw [Ke]; exact Ka (Kc HO_5.out (fun _ hk => hk.2))) | (dsimp only; exact Ka (Kc HO_5.out (fun _ hk => hk.2)))) _).trans (((Kn (p := ⟨gb474, _, none⟩) (by first | exact Ka (Kc HO_5.out (fun _ hk => hk.2)) | (rw [Ke]; exact Ka (Kc HO_5.out (fun _ hk => hk.2))) | (show (Addr.add _ _).block ≠ _; rw [Ke]; exact Ka (Kc HO_5.out (fun _ hk => hk.2))) | (dsimp only; exact Ka (Kc HO_5.out (fun _ hk => hk.2)))) _).trans (((Kn (p := ⟨gb474, _, none⟩) (by first | exact Ka (Kc HO_5.out (fun _ hk => hk.2)) | (rw [Ke]; exact Ka (Kc HO_5.out (fun _ hk => hk.2))) | (show (Addr.add _ _).block ≠ _; rw [Ke]; exact Ka (Kc HO_5.out (fun _ hk => hk.2))) | (dsimp only; exact Ka (Kc HO_5.out (fun _ hk => hk.2)))) _).trans (((Kn (p := ⟨gb474, _, none⟩) (by first | exact Ka (Kc HO_5.out (fun _ hk => hk.2)) | (rw [Ke]; exact Ka (Kc HO_5.out (fun _ hk => hk.2))) | (show (Addr.add _ _).block ≠ _; rw [Ke]; exact Ka (Kc HO_5.out (fun _ hk => hk.2))) | (dsimp only; exact Ka (Kc HO_5.out (fun _ hk => hk.2)))) _).trans (hHeld.2.2.2.2.2.2))))))))))))))⟩ (fun hHeld => ?_)
      clear hK K
      refine pu 12 9 #[o,o,o,o,o,o,o,o,o,o,o,o,o] HT_ ?_
      refine done_ (done_of HT_.out (by kernel_rfl)) ?_
      try go_wp2
      go_roundg k1
      case measure => have := HK1.out; omega
      case rel => exact ⟨(x6_1), (wrap64 (x7_1 + 1)), (t464), (t465), (by first | rfl | (simp; done) | (simp [*]; done)), H', ⟨by have := HK1.out; omega⟩, ⟨by (with_reducible repeat (first | apply Kd.R_alloc | apply Kd.R_drewN | apply Kd.R_drew)); exact Kt (Kd.R_far (p := ⟨gb474, 6, none⟩) (Kd.R_far (p := ⟨gb474, 5, none⟩) (Kd.R_far (p := ⟨gb474, 4, none⟩) (Kd.R_far (p := ⟨gb474, 3, none⟩) (Kd.R_far (p := ⟨gb474, 2, none⟩) (Kd.R_far (p := ⟨gb474, 1, none⟩) (Kd.R_far (p := ⟨gb474, 0, none⟩) (Kt HO_5.out (fun k_ hk => (⟨hk, hk.2⟩ : _ ∧ k_ ≠ gb474))) (fun _ hk => hk.2) (.int .i64 t466)) (fun _ hk => hk.2) (.int .i64 t467)) (fun _ hk => hk.2) (.int .i64 t468)) (fun _ hk => hk.2) (.int .i64 t469)) (fun _ hk => hk.2) (.int .i64 t470)) (fun _ hk => hk.2) (.int .i64 t471)) (fun _ hk => hk.2) (.bool t472)) (fun _ hk => hk.1.1)⟩, ⟨by (with_reducible repeat (first | apply Kd.R_alloc | apply Kd.R_drewN | apply Kd.R_drew)); exact Kt (Kd.R_far (p := ⟨gb474, 6, none⟩) (Kd.R_far (p := ⟨gb474, 5, none⟩) (Kd.R_far (p := ⟨gb474, 4, none⟩) (Kd.R_far (p := ⟨gb474, 3, none⟩) (Kd.R_far (p := ⟨gb474, 2, none⟩) (Kd.R_far (p := ⟨gb474, 1, none⟩) (Kd.R_far (p := ⟨gb474, 0, none⟩) (Kt HO_6.out (fun k_ hk => (⟨hk, hk.2⟩ : _ ∧ k_ ≠ gb474))) (fun _ hk => hk.2) (.int .i64 t466)) (fun _ hk => hk.2) (.int .i64 t467)) (fun _ hk => hk.2) (.int .i64 t468)) (fun _ hk => hk.2) (.int .i64 t469)) (fun _ hk => hk.2) (.int .i64 t470)) (fun _ hk => hk.2) (.int .i64 t471)) (fun _ hk => hk.2) (.bool t472)) (fun _ hk => hk.1.1)⟩, ⟨(iT NB452_474.out HI452.out)⟩, ⟨by repeat (first | (with_reducible first | exact HB.out | apply Ky | apply Kj | apply Ks | refine Ki ?_ (IsS92.ge HI452.out) | refine Ki ?_ GE474.out) | exact HB.out)⟩⟩
    ·rw [if_neg c9] at H
     exact absurd H (by simp)
   ·rw [if_neg c8] at H
    have c8b0 : decide (x7_1 < (t453.length : Int)) = false := decide_eq_false c8
    clear c8
    replace H := bO H
    obtain ⟨⟨t481, t482, t483⟩, A60, H⟩ := H
    try dsimp only at H
    by_cases c61 : t481 = true
    ·subst c61
     replace H := hT H
     replace H := bO H
     obtain ⟨⟨t484, t485, t486, t487, t488, t489, t490, t491, t492⟩, A62, H⟩ := H
     try dsimp only at H
     by_cases c63 : x6_1.length < 2513169434916
     ·rw [if_pos c63] at H
      have LMc63 := am c63
      clear c63
      obtain ⟨y493, hy493⟩ : ∃ y_ : List (S35), y_ = (x6_1 ++ [(⟨t484, (⟨t485, t486⟩ : S33), t487, t488, t489, t490⟩ : S35)]) := ⟨_, rfl⟩
      replace H : (some (y493, t453)) = some (r1, r2) := by first | (rw [hy493]; with_reducible exact H) | (have H2_ := (Option.bind_some _ _).symm.trans H; rw [hy493]; with_reducible exact H2_) | (have H2_ := (Option.bind_some _ _).symm.trans H; with_reducible exact H2_) | with_reducible exact H | (rw [hy493]; exact H) | exact H
      have Ny493 := am hy493
      clear hy493
      simp only [Option.some.injEq, Prod.mk.injEq] at H
      obtain ⟨rfl, rfl⟩ := H
      obtain ⟨Ao64, co64, eo64⟩ := Kd.R_slice HO_5.out
      subst eo64
      go_wp2_with (first | ((with_reducible refine gate_callee (f := 35) rfl ?_); refine gL (some 41) Try.func35 #[.pointer (some ⟨g452, 0, none⟩), .int .i64 4] ?_; (with_reducible refine (spec_l1Once.calls g452 t449 x453001_1 x453002_1 4 true t482 t483 w _ ?side1 ?side2 A60.out).mono ?_); (case side1 => exact iS HI452.out); (case side2 => exact sG (IsS92.ge HI452.out) HB.out); rintro e w65 ⟨rfl, hi, hb, hk⟩; refine ⟨_, rfl, ?_⟩; replace HO_5 := am (Kt (Kd.R_keep (IsS92.apart (show IsS92 w _ g452 t449 x453001_1 x453002_1 from (iS HI452.out)) (rB HO_5.out) (by decide)) hk (fun _ h => h.2)) (fun _ h => h.1)); replace HO_6 := am (Kt (Kd.R_keep (IsS92.apart (show IsS92 w _ g452 t449 x453001_1 x453002_1 from (iS HI452.out)) (rB HO_6.out) (by decide)) hk (fun _ h => h.2)) (fun _ h => h.1)); replace HB := am (hb); replace HI452 := am (hi); (try clear hb); (try clear hk); (try clear hi)) | ((with_reducible refine gate_callee (f := 38) rfl ?_); refine gL (some 44) Try.func38 #[.pointer (some ⟨g452, 0, none⟩)] ?_; (with_reducible refine (spec_l10Any.calls g452 t449 t482 t483 t484 t485 t486 t487 t488 t489 t490 t491 t492 w _ ?side1 ?side2 A62.out).mono ?_); (case side1 => exact iS HI452.out); (case side2 => exact sG (IsS92.ge HI452.out) HB.out); rintro e w66 ⟨rfl, hi, hb, hk⟩; refine ⟨_, rfl, ?_⟩; replace HO_5 := am (Kt (Kd.R_keep (IsS92.apart (show IsS92 w _ g452 t449 t482 t483 from (iS HI452.out)) (rB HO_5.out) (by decide)) hk (fun _ h => h.2)) (fun _ h => h.1)); replace HO_6 := am (Kt (Kd.R_keep (IsS92.apart (show IsS92 w _ g452 t449 t482 t483 from (iS HI452.out)) (rB HO_6.out) (by decide)) hk (fun _ h => h.2)) (fun _ h => h.1)); replace HB := am (hb); replace HI452 := am (hi); (try clear hb); (try clear hk); (try clear hi)) | ((with_reducible refine gate_builtin (b := .append) (xs := #[.tmp 42, .tmp 45]) rfl ?_); at_builtin; refine Kd.R_append k35 (w0 := w) w.heap.size rfl (.tmp 42) (.tmp 45) 24 35 (.agg #[(.int .i64 0), (.int .i64 0), (.int .i64 0), (.int .i64 0), (.int .i64 0), (.int .i64 0), (.bool false)]) 56 rfl Try.underlying24 info35 rfl (by decide) (by omega) u6 x6_1 (⟨t484, (⟨t485, t486⟩ : S33), t487, t488, t489, t490⟩ : S35) [.int .i64 t484, .int .i64 t485, .int .i64 t486, .int .i64 t487, .int .i64 t488, .int .i64 t489, .bool t490] (fun k_ => some k_ ≠ (.slice Ao64 t453.length co64 : Value).ownBlock) (fun _ => False) rfl rfl ?aP (fun _ hk => hk.elim) ?aF ?aO ?aB ?aS ?aL ?_; (case aP => exact k35_mkM _ _ _ (⟨t484, (⟨t485, t486⟩ : S33), t487, t488, t489, t490⟩ : S35)); (case aB => exact (sG (IsS92.ge HI452.out) HB.out)); (case aF => exact (fun k_ hk => Kd.fresh' (Kd.R_lt (rB HO_5.out)) k_ hk)); (case aO => exact (rB HO_6.out)); (case aS => exact (below_size (sG (IsS92.ge HI452.out) HB.out))); (case aL => have := LMc63.out; omega); intro v494 w67 ho hb hg hat; rw [← Ny493.out] at ho; have n0_ := am (Kd.R_after (ok := (fun _ => True)) (by (with_reducible repeat (first | apply Kd.R_alloc | apply Kd.R_drewN | apply Kd.R_drew)); exact Kt HO_5.out (fun _ hk => ⟨trivial, hk⟩)) hg hat); have n1_ := am (IsS92.grown (iS HI452.out) hg (IsS92.own_ne HI452.out HO_6.out (by decide))); have n2_ := am (hb); have n3_ := am (ho); clear HO_5; clear HI452; clear HB; clear HO_6; have HO_5 := n0_; have HI452 := n1_; have HB := n2_; have HO495 := n3_; clear n0_ n1_ n2_ n3_; clear ho hb hg hat))
      go_ret2
      exact ⟨_, _, by first | rfl | (simp [errW_none, errW_some] <;> rfl) | (simp [*, errW_none, errW_some] <;> rfl), by (with_reducible repeat (first | apply Kd.R_alloc | apply Kd.R_drewN | apply Kd.R_drew)); exact HO495.out, by (with_reducible repeat (first | apply Kd.R_alloc | apply Kd.R_drewN | apply Kd.R_drew)); exact Kt HO_5.out (fun _ hk => hk.2), (sG (IsS92.ge HI452.out) HB.out)⟩
     ·rw [if_neg c63] at H
      exact absurd H (by simp)
    ·replace c61 := bF c61
     subst c61
     replace H := hF H
     simp only [Option.some.injEq, Prod.mk.injEq] at H
     obtain ⟨rfl, rfl⟩ := H
     obtain ⟨Ao68, co68, eo68⟩ := Kd.R_slice HO_5.out
     subst eo68
     go_wp2_with (first | ((with_reducible refine gate_callee (f := 35) rfl ?_); refine gL (some 41) Try.func35 #[.pointer (some ⟨g452, 0, none⟩), .int .i64 4] ?_; (with_reducible refine (spec_l1Once.calls g452 t449 x453001_1 x453002_1 4 false t482 t483 w _ ?side1 ?side2 A60.out).mono ?_); (case side1 => exact iS HI452.out); (case side2 => exact sG (IsS92.ge HI452.out) HB.out); rintro e w69 ⟨rfl, hi, hb, hk⟩; refine ⟨_, rfl, ?_⟩; replace HO_5 := am (Kt (Kd.R_keep (IsS92.apart (show IsS92 w _ g452 t449 x453001_1 x453002_1 from (iS HI452.out)) (rB HO_5.out) (by decide)) hk (fun _ h => h.2)) (fun _ h => h.1)); replace HO_6 := am (Kt (Kd.R_keep (IsS92.apart (show IsS92 w _ g452 t449 x453001_1 x453002_1 from (iS HI452.out)) (rB HO_6.out) (by decide)) hk (fun _ h => h.2)) (fun _ h => h.1)); replace HB := am (hb); replace HI452 := am (hi); (try clear hb); (try clear hk); (try clear hi)))
     go_ret2
     exact ⟨_, _, by first | rfl | (simp [errW_none, errW_some] <;> rfl) | (simp [*, errW_none, errW_some] <;> rfl), by (with_reducible repeat (first | apply Kd.R_alloc | apply Kd.R_drewN | apply Kd.R_drew)); exact HO_6.out, by (with_reducible repeat (first | apply Kd.R_alloc | apply Kd.R_drewN | apply Kd.R_drew)); exact HO_5.out, (sG (IsS92.ge HI452.out) HB.out)⟩

end Go.Proofs.Ytilneejgliglhaa.QN
