/- Go functions as Lean functions, each with its walk; printed by a program of this session (a scratch copy of print.py that follows nested field addresses and tells a law for the answer true). -/
import Derived.Test.YtilneejgliglhaaQNx0
import Derived.Test.YtilneejgliglhaaQNx28
namespace Go.Proofs.Ytilneejgliglhaa.QN
open Go.RowKit Go.Proofs.YtilneejgliglhaaW.PrintWords Go.Proofs.YtilneejgliglhaaW.PrintLast Go.Proofs.YtilneejgliglhaaW.PrintMore Go.Proofs.Ytilneejgliglhaa.Short
attribute [local go_sem] max2_int min2_int max_two min_two max_three min_three max_four min_four   -- for this text's walks alone
set_option linter.unusedVariables false
set_option linter.unusedSimpArgs false

/-! ### spec_IsAllowed: function 9 -/
def spec_IsAllowed.l0 : Nat → List (S35) → Int → Int → Int → Bool → Int → Int → Int → Option (Bool)
 | 0, _, _, _, _, _, _, _, _ => none
 | k + 1, x0, x1, x3, x4, x5, x13, x288000, x288001 => if x13 < (x0.length : Int) then (if 0 ≤ x13 then ((spec_Covers.f ((rd_T35 x0 x13).f0) ((rd_T35 x0 x13).f1.f0) ((rd_T35 x0 x13).f1.f1) ((rd_T35 x0 x13).f2) ((rd_T35 x0 x13).f3) ((rd_T35 x0 x13).f4) ((rd_T35 x0 x13).f5) x1 x288000 x288001 x3 x4 x5).bind fun t289 => (if t289 = true then (some true) else (spec_IsAllowed.l0 k x0 x1 x3 x4 x5 (wrap64 (x13 + 1)) x288000 x288001))) else (none)) else (some false)
def spec_IsAllowed.f (k : Nat) (l0 : List (S35)) (a1 : Int) (a2_0 : Int) (a2_1 : Int) (a3 : Int) (a4 : Int) (a5 : Bool) : Option (Bool) := spec_IsAllowed.l0 k l0 a1 a3 a4 a5 0 a2_0 a2_1
def spec_IsAllowed.T4 : Bool × List (List Nat × List Nat) := (true, [([], []), ([], []), ([0, 1], [0, 1]), ([2], [2]), ([], []), ([], []), ([], []), ([], []), ([], []), ([3, 4, 5, 6, 7, 8], [3, 4, 5, 6, 7, 8])])
def spec_IsAllowed.B4 : List Nat := [0, 0, 3, 7, 0, 0, 0, 0, 0, 511]
theorem spec_IsAllowed.tab4 : rtab .any (opsOf Try.f9 4) = spec_IsAllowed.T4 := by kernel_rfl
theorem spec_IsAllowed.bits4 : waitsOk spec_IsAllowed.T4.2 spec_IsAllowed.B4 = true := by kernel_rfl
set_option maxHeartbeats 8000000 in
set_option maxRecDepth 100000 in
theorem spec_IsAllowed.calls (k : Nat) (A0 : Option Addr) (c0 : Nat) (l0 : List (S35)) (a1 : Int) (a2_0 : Int) (a2_1 : Int) (a3 : Int) (a4 : Int) (a5 : Bool) (r : Bool) (w : World) (hr0 : Kd.C k35 w A0 l0.length l0) (hc0 : l0.length ≤ c0) (h : spec_IsAllowed.f k l0 a1 a2_0 a2_1 a3 a4 a5 = some r) :
  Calls Try.prog 9 #[.slice A0 l0.length c0, .int .i64 a1, .agg #[.int .i64 a2_0, .int .i64 a2_1], .int .i64 a3, .int .i64 a4, .bool a5] w fun e w' => e = .returned (.bool r) ∧ Below w.heap.size w w' := by
 have hu27 := Try.underlying27
 have hu35 := Try.underlying35
 have HR0 := am hr0
 have HC0 := am hc0
 clear hr0 hc0
 have HB := am (Below.refl w.heap.size w)
 unfold spec_IsAllowed.f at h
 have H := h
 clear h
 have H' := am H
 clear H
 go_enter Try.func9, Try.ntmps9
 go_wp2_with (first | ((with_reducible refine gate_dst (N := 8) rfl ?_); refine bE 8 #[.int .i64 a2_0, .int .i64 a2_1] 27 ?_; intro gb287 hg w7 hbox hb; have q_ := hbx_ (sB HB.out) hg hb; have n0_ := q_.1; have n1_ := am (hbox); have n2_ := q_.2; have n3_ := n2_; clear HB; have HB := n0_; have BK287 := n1_; have GW287 := n2_; have GE287 := n3_; clear n0_ n1_ n2_ n3_ hb hbox hg))
 go_loopg [13] k (fun kq v13 w' => ∃ (x13_1 : Int), v13 = .int .i64 x13_1 ∧ Aside0 (spec_IsAllowed.l0 kq l0 a1 a3 a4 a5 x13_1 a2_0 a2_1 = some r) ∧ Aside0 (kq ≤ k) ∧ Aside0 (w'.heap[gb287]? = some (.cells #[.int .i64 a2_0, .int .i64 a2_1] 27 (0, 0))) ∧ Aside0 (Below w.heap.size w w'))
 case atStart => exact ⟨(0), (by first | rfl | (simp; done) | (simp [*]; done)), H', ⟨Nat.le_refl _⟩, ⟨bB BK287.out⟩, ⟨sB HB.out⟩⟩
 case round =>
  clear H'
  try clear p2
  obtain ⟨x13_1, rfl, HA, HK1, BK287, HB⟩ := hrel
  cases gk with
  | zero => exact absurd HA.out (by simp [spec_IsAllowed.l0])
  | succ k1 =>
   have H := HA.out
   clear HA
   simp only [spec_IsAllowed.l0] at H
   by_cases c8 : x13_1 < (l0.length : Int)
   ·rw [if_pos c8] at H
    have c8b0 : decide (x13_1 < (l0.length : Int)) = true := decide_eq_true c8
    clear c8
    by_cases c9 : 0 ≤ x13_1
    ·rw [if_pos c9] at H
     have c9b0 : decide (0 ≤ x13_1) = true := decide_eq_true c9
     clear c9
     replace H := bO H
     obtain ⟨t289, A10, H⟩ := H
     by_cases c11 : t289 = true
     ·subst c11
      replace H := hT H
      obtain rfl := Option.some.inj H
      try go_wp2
      replace BK287 := am (blk_drew BK287.out)
      replace HB := am (Ks HB.out)
      have p288 : 0 ≤ (x13_1 : Int) := Kp (by first | (with_reducible assumption) | assumption)
      have q288 : x13_1 < (l0.length : Int) := Kp (by first | (with_reducible assumption) | assumption)
      obtain ⟨ad288, e288, hx288_0, hx288_1, hx288_2, hx288_3, hx288_4, hx288_5, hx288_6⟩ := at_T35 HR0.out x13_1 p288 q288
      have hw288_6 := hx288_6
      have hw288_5 := hx288_5
      have hw288_4 := hx288_4
      have hw288_3 := hx288_3
      have hw288_2 := hx288_2
      have hw288_1 := hx288_1
      have hw288_0 := hx288_0
      cases e288
      replace hx288_0 := hc_ HB hx288_0
      replace hx288_1 := hc_ HB hx288_1
      replace hx288_2 := hc_ HB hx288_2
      replace hx288_3 := hc_ HB hx288_3
      replace hx288_4 := hc_ HB hx288_4
      replace hx288_5 := hc_ HB hx288_5
      replace hx288_6 := hc_ HB hx288_6
      replace p288 := eq_true p288
      replace q288 := eq_true q288
      refine start_ (n := 10) (S := fun w' => w'.cell? ⟨gb287, 0, none⟩ = some (.int .i64 a2_0) ∧ w'.cell? ⟨gb287, 1, none⟩ = some (.int .i64 a2_1) ∧ w'.cell? (ad288.add ((x13_1).toNat * 7)) = some (.int .i64 ((rd_T35 l0 x13_1).f0)) ∧ w'.cell? ⟨(ad288.add ((x13_1).toNat * 7)).block, (ad288.add ((x13_1).toNat * 7)).off + 1, none⟩ = some (.int .i64 ((rd_T35 l0 x13_1).f1.f0)) ∧ w'.cell? ⟨(ad288.add ((x13_1).toNat * 7)).block, (ad288.add ((x13_1).toNat * 7)).off + 2, none⟩ = some (.int .i64 ((rd_T35 l0 x13_1).f1.f1)) ∧ w'.cell? ⟨(ad288.add ((x13_1).toNat * 7)).block, (ad288.add ((x13_1).toNat * 7)).off + 3, none⟩ = some (.int .i64 ((rd_T35 l0 x13_1).f2)) ∧ w'.cell? ⟨(ad288.add ((x13_1).toNat * 7)).block, (ad288.add ((x13_1).toNat * 7)).off + 4, none⟩ = some (.int .i64 ((rd_T35 l0 x13_1).f3)) ∧ w'.cell? ⟨(ad288.add ((x13_1).toNat * 7)).block, (ad288.add ((x13_1).toNat * 7)).off + 5, none⟩ = some (.int .i64 ((rd_T35 l0 x13_1).f4)) ∧ w'.cell? ⟨(ad288.add ((x13_1).toNat * 7)).block, (ad288.add ((x13_1).toNat * 7)).off + 6, none⟩ = some (.bool ((rd_T35 l0 x13_1).f5))) (ds := []) #[z,z,z,z,z,z,z,z,z,z] (by kernel_rfl) rfl rfl ⟨(Kk BK287.out 0).trans rfl, (Kk BK287.out 1).trans rfl, (hc_ HB hw288_0), (hc_ HB hw288_1), (hc_ HB hw288_2), (hc_ HB hw288_3), (hc_ HB hw288_4), (hc_ HB hw288_5), (hc_ HB hw288_6)⟩ (fun hHeld => ?_); refine with_tabW spec_IsAllowed.tab4 spec_IsAllowed.bits4 (fun HT_ HW_ => ?_)
      generalize wr.drew = w12 at BK287 HB hx288_0 hx288_1 hx288_2 hx288_3 hx288_4 hx288_5 hx288_6 hHeld ⊢
      refine pu 0 20 #[o,z,z,z,z,z,z,z,z,z] HT_ ?_
      refine pu 1 21 #[o,o,z,z,z,z,z,z,z,z] HT_ ?_
      refine pu 2 22 #[o,o,o,z,z,z,z,z,z,z] HT_ ?_
      refine pu 4 24 #[o,o,o,z,o,z,z,z,z,z] HT_ ?_
      refine pu 6 26 #[o,o,o,z,o,z,o,z,z,z] HT_ ?_
      refine pu 7 27 #[o,o,o,z,o,z,o,o,z,z] HT_ ?_
      refine pu 8 28 #[o,o,o,z,o,z,o,o,o,z] HT_ ?_
      refine take_ (i := 3) (N := some 23) (v := ?_) (a' := ?_) #[o,o,o,o,o,z,o,o,o,z] rfl rfl (take_ofW HT_.out HW_.out (by kernel_rfl)) (fun _ _ _ h => h) (Or.inl ⟨by rfl, ?_⟩) hHeld ?_ ?_
      rotate_left
      ·rintro w' ⟨s0, s1, s2, s3, s4, s5, s6, s7, s8⟩
       go_simp
       with_reducible rfl
      rotate_left
      ·simp only [Act.put, qa, qb, qc, i64_w, i32_w]
       rfl
      refine take_ (i := 5) (N := some 25) (v := ?_) (a' := ?_) #[o,o,o,o,o,o,o,o,o,z] rfl rfl (take_ofW HT_.out HW_.out (by kernel_rfl)) (fun _ _ _ h => h) (Or.inl ⟨by rfl, ?_⟩) hHeld ?_ ?_
      rotate_left
      ·rintro w' ⟨s0, s1, s2, s3, s4, s5, s6, s7, s8⟩
       go_simp
       with_reducible rfl
      rotate_left
      ·simp only [Act.put, qa, qb, qc, i64_w, i32_w]
       rfl
      refine one_ (i := 9) (N := some 29) #[o,o,o,o,o,o,o,o,o,o] rfl rfl (one_of HT_.out (by kernel_rfl)) (by decide) (fun K hK => ?_)
      refine gS Try.func36 #[.agg #[.int .i64 ((rd_T35 l0 x13_1).f0), .int .i64 ((rd_T35 l0 x13_1).f1.f0), .int .i64 ((rd_T35 l0 x13_1).f1.f1), .int .i64 ((rd_T35 l0 x13_1).f2), .int .i64 ((rd_T35 l0 x13_1).f3), .int .i64 ((rd_T35 l0 x13_1).f4), .bool ((rd_T35 l0 x13_1).f5)], .int .i64 a1, .agg #[.int .i64 a2_0, .int .i64 a2_1], .int .i64 a3, .int .i64 a4, .bool a5] ?_
      with_reducible refine (spec_Covers.calls ((rd_T35 l0 x13_1).f0) ((rd_T35 l0 x13_1).f1.f0) ((rd_T35 l0 x13_1).f1.f1) ((rd_T35 l0 x13_1).f2) ((rd_T35 l0 x13_1).f3) ((rd_T35 l0 x13_1).f4) ((rd_T35 l0 x13_1).f5) a1 a2_0 a2_1 a3 a4 a5 true _ A10.out).mono ?_
      rintro e w13 ⟨rfl, hb⟩
      refine ⟨_, rfl, ?_⟩
      replace BK287 := am (Kb (bB BK287.out) hb)
      replace HB := am (Kh (sB HB.out) hb)
      (try clear hb)
      (try clear hb2)
      (try clear hk)
      (try clear hi)
      refine hK.out _ _ ⟨(Kk BK287.out 0).trans rfl, (Kk BK287.out 1).trans rfl, (hc_ HB hw288_0), (hc_ HB hw288_1), (hc_ HB hw288_2), (hc_ HB hw288_3), (hc_ HB hw288_4), (hc_ HB hw288_5), (hc_ HB hw288_6)⟩ (fun hHeld => ?_)
      clear hK K
      refine norm_ (a' := ?_) ?_ ?_
      rotate_left
      ·show Act.put _ (some 29) _ = _
       simp only [Act.put, qa, qb, qc, i64_w, i32_w]
       rfl
      refine done_ (done_of HT_.out (by kernel_rfl)) ?_
      try go_wp2
      go_ret
      exact lf (sB HB.out)
     ·replace c11 := bF c11
      subst c11
      replace H := hF H
      have H' := am H
      clear H
      try go_wp2
      replace BK287 := am (blk_drew BK287.out)
      replace HB := am (Ks HB.out)
      have p288 : 0 ≤ (x13_1 : Int) := Kp (by first | (with_reducible assumption) | assumption)
      have q288 : x13_1 < (l0.length : Int) := Kp (by first | (with_reducible assumption) | assumption)
      obtain ⟨ad288, e288, hx288_0, hx288_1, hx288_2, hx288_3, hx288_4, hx288_5, hx288_6⟩ := at_T35 HR0.out x13_1 p288 q288
      have hw288_6 := hx288_6
      have hw288_5 := hx288_5
      have hw288_4 := hx288_4
      have hw288_3 := hx288_3
      have hw288_2 := hx288_2
      have hw288_1 := hx288_1
      have hw288_0 := hx288_0
      cases e288
      replace hx288_0 := hc_ HB hx288_0
      replace hx288_1 := hc_ HB hx288_1
      replace hx288_2 := hc_ HB hx288_2
      replace hx288_3 := hc_ HB hx288_3
      replace hx288_4 := hc_ HB hx288_4
      replace hx288_5 := hc_ HB hx288_5
      replace hx288_6 := hc_ HB hx288_6
      replace p288 := eq_true p288
      replace q288 := eq_true q288
      refine start_ (n := 10) (S := fun w' => w'.cell? ⟨gb287, 0, none⟩ = some (.int .i64 a2_0) ∧ w'.cell? ⟨gb287, 1, none⟩ = some (.int .i64 a2_1) ∧ w'.cell? (ad288.add ((x13_1).toNat * 7)) = some (.int .i64 ((rd_T35 l0 x13_1).f0)) ∧ w'.cell? ⟨(ad288.add ((x13_1).toNat * 7)).block, (ad288.add ((x13_1).toNat * 7)).off + 1, none⟩ = some (.int .i64 ((rd_T35 l0 x13_1).f1.f0)) ∧ w'.cell? ⟨(ad288.add ((x13_1).toNat * 7)).block, (ad288.add ((x13_1).toNat * 7)).off + 2, none⟩ = some (.int .i64 ((rd_T35 l0 x13_1).f1.f1)) ∧ w'.cell? ⟨(ad288.add ((x13_1).toNat * 7)).block, (ad288.add ((x13_1).toNat * 7)).off + 3, none⟩ = some (.int .i64 ((rd_T35 l0 x13_1).f2)) ∧ w'.cell? ⟨(ad288.add ((x13_1).toNat * 7)).block, (ad288.add ((x13_1).toNat * 7)).off + 4, none⟩ = some (.int .i64 ((rd_T35 l0 x13_1).f3)) ∧ w'.cell? ⟨(ad288.add ((x13_1).toNat * 7)).block, (ad288.add ((x13_1).toNat * 7)).off + 5, none⟩ = some (.int .i64 ((rd_T35 l0 x13_1).f4)) ∧ w'.cell? ⟨(ad288.add ((x13_1).toNat * 7)).block, (ad288.add ((x13_1).toNat * 7)).off + 6, none⟩ = some (.bool ((rd_T35 l0 x13_1).f5))) (ds := []) #[z,z,z,z,z,z,z,z,z,z] (by kernel_rfl) rfl rfl ⟨(Kk BK287.out 0).trans rfl, (Kk BK287.out 1).trans rfl, (hc_ HB hw288_0), (hc_ HB hw288_1), (hc_ HB hw288_2), (hc_ HB hw288_3), (hc_ HB hw288_4), (hc_ HB hw288_5), (hc_ HB hw288_6)⟩ (fun hHeld => ?_); refine with_tabW spec_IsAllowed.tab4 spec_IsAllowed.bits4 (fun HT_ HW_ => ?_)
      generalize wr.drew = w14 at BK287 HB hx288_0 hx288_1 hx288_2 hx288_3 hx288_4 hx288_5 hx288_6 hHeld ⊢
      refine pu 0 20 #[o,z,z,z,z,z,z,z,z,z] HT_ ?_
      refine pu 1 21 #[o,o,z,z,z,z,z,z,z,z] HT_ ?_
      refine pu 2 22 #[o,o,o,z,z,z,z,z,z,z] HT_ ?_
      refine pu 4 24 #[o,o,o,z,o,z,z,z,z,z] HT_ ?_
      refine pu 6 26 #[o,o,o,z,o,z,o,z,z,z] HT_ ?_
      refine pu 7 27 #[o,o,o,z,o,z,o,o,z,z] HT_ ?_
      refine pu 8 28 #[o,o,o,z,o,z,o,o,o,z] HT_ ?_
      refine take_ (i := 3) (N := some 23) (v := ?_) (a' := ?_) #[o,o,o,o,o,z,o,o,o,z] rfl rfl (take_ofW HT_.out HW_.out (by kernel_rfl)) (fun _ _ _ h => h) (Or.inl ⟨by rfl, ?_⟩) hHeld ?_ ?_
      rotate_left
      ·rintro w' ⟨s0, s1, s2, s3, s4, s5, s6, s7, s8⟩
       go_simp
       with_reducible rfl
      rotate_left
      ·simp only [Act.put, qa, qb, qc, i64_w, i32_w]
       rfl
      refine take_ (i := 5) (N := some 25) (v := ?_) (a' := ?_) #[o,o,o,o,o,o,o,o,o,z] rfl rfl (take_ofW HT_.out HW_.out (by kernel_rfl)) (fun _ _ _ h => h) (Or.inl ⟨by rfl, ?_⟩) hHeld ?_ ?_
      rotate_left
      ·rintro w' ⟨s0, s1, s2, s3, s4, s5, s6, s7, s8⟩
       go_simp
       with_reducible rfl
      rotate_left
      ·simp only [Act.put, qa, qb, qc, i64_w, i32_w]
       rfl
      refine one_ (i := 9) (N := some 29) #[o,o,o,o,o,o,o,o,o,o] rfl rfl (one_of HT_.out (by kernel_rfl)) (by decide) (fun K hK => ?_)
      refine gS Try.func36 #[.agg #[.int .i64 ((rd_T35 l0 x13_1).f0), .int .i64 ((rd_T35 l0 x13_1).f1.f0), .int .i64 ((rd_T35 l0 x13_1).f1.f1), .int .i64 ((rd_T35 l0 x13_1).f2), .int .i64 ((rd_T35 l0 x13_1).f3), .int .i64 ((rd_T35 l0 x13_1).f4), .bool ((rd_T35 l0 x13_1).f5)], .int .i64 a1, .agg #[.int .i64 a2_0, .int .i64 a2_1], .int .i64 a3, .int .i64 a4, .bool a5] ?_
      with_reducible refine (spec_Covers.calls ((rd_T35 l0 x13_1).f0) ((rd_T35 l0 x13_1).f1.f0) ((rd_T35 l0 x13_1).f1.f1) ((rd_T35 l0 x13_1).f2) ((rd_T35 l0 x13_1).f3) ((rd_T35 l0 x13_1).f4) ((rd_T35 l0 x13_1).f5) a1 a2_0 a2_1 a3 a4 a5 false _ A10.out).mono ?_
      rintro e w15 ⟨rfl, hb⟩
      refine ⟨_, rfl, ?_⟩
      replace BK287 := am (Kb (bB BK287.out) hb)
      replace HB := am (Kh (sB HB.out) hb)
      (try clear hb)
      (try clear hb2)
      (try clear hk)
      (try clear hi)
      refine hK.out _ _ ⟨(Kk BK287.out 0).trans rfl, (Kk BK287.out 1).trans rfl, (hc_ HB hw288_0), (hc_ HB hw288_1), (hc_ HB hw288_2), (hc_ HB hw288_3), (hc_ HB hw288_4), (hc_ HB hw288_5), (hc_ HB hw288_6)⟩ (fun hHeld => ?_)
      clear hK K
      refine norm_ (a' := ?_) ?_ ?_
      rotate_left
      ·show Act.put _ (some 29) _ = _
       simp only [Act.put, qa, qb, qc, i64_w, i32_w]
       rfl
      refine done_ (done_of HT_.out (by kernel_rfl)) ?_
      try go_wp2
      go_roundg k1
      case measure => have := HK1.out; omega
      case rel => exact ⟨(wrap64 (x13_1 + 1)), (by first | rfl | (simp; done) | (simp [*]; done)), H', ⟨by have := HK1.out; omega⟩, ⟨bB BK287.out⟩, ⟨sB HB.out⟩⟩
    ·rw [if_neg c9] at H
     exact absurd H (by simp)
   ·rw [if_neg c8] at H
    have c8b0 : decide (x13_1 < (l0.length : Int)) = false := decide_eq_false c8
    clear c8
    obtain rfl := Option.some.inj H
    go_wp2
    go_ret
    exact lf (sB HB.out)

end Go.Proofs.Ytilneejgliglhaa.QN
