/- Go functions as Lean functions, each with its walk; printed by a program of this session (a scratch copy of print.py that follows nested field addresses and tells a law for the answer true). -/
import Derived.Test.YtilneejgliglhaaQNx0
import Derived.Test.YtilneejgliglhaaQNx12
import Derived.Test.YtilneejgliglhaaQNx16
import Derived.Test.YtilneejgliglhaaQNx18
import Derived.Test.YtilneejgliglhaaQNx19
import Derived.Test.YtilneejgliglhaaQNx21
import Derived.Test.YtilneejgliglhaaQNx22
import Derived.Test.YtilneejgliglhaaQNx29
import Derived.Test.YtilneejgliglhaaQNx34
import Derived.Test.YtilneejgliglhaaQNx37
import Derived.Test.YtilneejgliglhaaQNx38
import Derived.Test.YtilneejgliglhaaQNx39
import Derived.Test.YtilneejgliglhaaQNx40
import Derived.Test.YtilneejgliglhaaQNx44
import Derived.Test.YtilneejgliglhaaQNxM0
import Derived.Test.YtilneejgliglhaaVInv
import Derived.Test.YtilneejgliglhaaVInvWords
import Derived.Test.YtilneejgliglhaaQNx45a
namespace Go.Proofs.Ytilneejgliglhaa.QN
open Go.RowKit Go.Proofs.YtilneejgliglhaaW.PrintWords Go.Proofs.YtilneejgliglhaaW.PrintLast Go.Proofs.YtilneejgliglhaaW.PrintMore Go.Proofs.Ytilneejgliglhaa.Short
attribute [local go_sem] max2_int min2_int max_two min_two max_three min_three max_four min_four   -- for this text's walks alone
set_option linter.unusedVariables false
set_option linter.unusedSimpArgs false

def laws_FnNarrowed.T5 : Bool × List (List Nat × List Nat) := (true, [([], []), ([], []), ([], []), ([], []), ([], []), ([], []), ([0, 1, 2, 3, 4, 5], [0, 1, 2, 3, 4, 5]), ([], []), ([], []), ([], []), ([], []), ([], []), ([], []), ([7, 8, 9, 10, 11, 12, 6], [7, 8, 9, 10, 11, 12]), ([6, 13], [6, 13])])
def laws_FnNarrowed.B5 : List Nat := [0, 0, 0, 0, 0, 0, 63, 0, 0, 0, 0, 0, 0, 8191, 16383]
theorem laws_FnNarrowed.tab5 : rtab .any (opsOf Try.f3 5) = laws_FnNarrowed.T5 := by kernel_rfl
theorem laws_FnNarrowed.bits5 : waitsOk laws_FnNarrowed.T5.2 laws_FnNarrowed.B5 = true := by kernel_rfl
def laws_FnNarrowed.T7 : Bool × List (List Nat × List Nat) := (true, [([], []), ([0], [0]), ([1], [1]), ([1], [1]), ([1], [1]), ([1], [1]), ([1], [1]), ([1], [1]), ([2, 3, 4, 5, 6, 7, 1, 1], [1, 2, 3, 4, 5, 6, 7]), ([8, 1], [1, 8]), ([9, 8, 1], [1, 9]), ([10], [10]), ([10], [10]), ([10], [10]), ([10], [10]), ([11, 12, 13, 14, 10, 10], [10, 11, 12, 13, 14]), ([10, 15, 1], [1, 10, 15]), ([1, 16], [1, 16]), ([17, 15], [17]), ([18], [18]), ([18], [18]), ([18], [18]), ([18], [18]), ([18], [18]), ([18], [18]), ([19, 20, 21, 22, 23, 24, 18, 18], [18, 19, 20, 21, 22, 23, 24]), ([18], [18]), ([18], [18]), ([18], [18]), ([18], [18]), ([18], [18]), ([18], [18]), ([26, 27, 28, 29, 30, 31, 25, 18], [18, 26, 27, 28, 29, 30, 31]), ([25, 32, 18], [18, 25, 32]), ([18, 33], [18, 33])])
def laws_FnNarrowed.B7 : List Nat := [0, 1, 3, 3, 3, 3, 3, 3, 255, 511, 1023, 2047, 2047, 2047, 2047, 32767, 65535, 131071, 262143, 524287, 524287, 524287, 524287, 524287, 524287, 33554431, 524287, 524287, 524287, 524287, 524287, 524287, 4294967295, 8589934591, 17179869183]
theorem laws_FnNarrowed.tab7 : rtab .any (opsOf Try.f3 7) = laws_FnNarrowed.T7 := by kernel_rfl
theorem laws_FnNarrowed.bits7 : waitsOk laws_FnNarrowed.T7.2 laws_FnNarrowed.B7 = true := by kernel_rfl
set_option maxHeartbeats 8000000 in
set_option maxRecDepth 100000 in
theorem laws_FnNarrowed.calls (k : Nat) (A0 : Option Addr) (c0 : Nat) (l0 : List Int) (r : Bool) (w : World) (hr0 : Kd.C (Kd.int .u8) w A0 l0.length l0) (hc0 : l0.length ≤ c0) (h : laws_FnNarrowed.f k l0 = some r) (hr_ : r = true) :
  Calls Try.prog 3 #[.slice A0 l0.length c0] w fun e w' => e = .returned (.bool r) ∧ Below w.heap.size w w' := by
 have HRT := am hr_
 clear hr_
 have hu27 := Try.underlying27
 have hu35 := Try.underlying35
 have hu33 := Try.underlying33
 have HR0 := am hr0
 have HC0 := am hc0
 clear hr0 hc0
 have HB := am (Below.refl w.heap.size w)
 unfold laws_FnNarrowed.f at h
 have H := h
 clear h
 replace H := bO H
 obtain ⟨t496, A2, H⟩ := H
 by_cases c3 : t496 = true
 ·subst c3
  replace H := hT H
  obtain rfl := Option.some.inj H
  go_enter Try.func3, Try.ntmps3
  go_wp2_with (first | ((with_reducible refine gate_callee (f := 5) rfl ?_); refine gL (some 25) Try.func5 #[.slice A0 l0.length c0] ?_; (with_reducible refine (laws_big.calls _ _ l0 true _ ?side1 ?side2 A2.out).mono ?_); (case side1 => exact cB (HR0.out)); (case side2 => exact HC0.out); rintro e w' ⟨rfl, ⟨nd, rfl⟩⟩; refine ⟨_, rfl, ?_⟩))
  go_ret
  exact lf (sB HB.out)
 ·replace c3 := bF c3
  subst c3
  replace H := hF H
  replace H := bO H
  obtain ⟨⟨t497, t500, t503, t504, t505, t506, t507, t508⟩, A4, H⟩ := H
  try dsimp only at H
  replace H := bO H
  obtain ⟨t510, A5, H⟩ := H
  replace H := bO H
  obtain ⟨t511, A6, H⟩ := H
  replace H := bO H
  obtain ⟨t512, A7, H⟩ := H
  by_cases c8 : (t511 != t512) = true
  ·rw [if_pos c8] at H
   have c8b0 : (t511 != t512) = true := c8
   (try (have c8b1 : decide (t511 = t512) = false := by simpa using c8))
   (try (have c8b2 : (t511 == t512) = false := by simpa using c8))
   (try (have c8b3 : ¬ (t511 = t512) := by simpa using c8))
   clear c8
   exact absurd ((Option.some.inj H).trans HRT.out) (by decide)
  ·rw [if_neg c8] at H
   have c8b0 : (t511 != t512) = false := by simpa using c8
   (try (have c8b1 : decide (t511 = t512) = true := by simpa using c8))
   (try (have c8b2 : (t511 == t512) = true := by simpa using c8))
   clear c8
   have HC9 := am H
   clear H
   go_enter Try.func3, Try.ntmps3
   try go_wp2_with (first | ((with_reducible refine gate_callee (f := 5) rfl ?_); refine gL (some 25) Try.func5 #[.slice A0 l0.length c0] ?_; (with_reducible refine (laws_big.calls _ _ l0 false _ ?side1 ?side2 A2.out).mono ?_); (case side1 => exact cB (HR0.out)); (case side2 => exact HC0.out); rintro e w' ⟨rfl, ⟨nd, rfl⟩⟩; refine ⟨_, rfl, ?_⟩) | ((with_reducible refine gate_callee (f := 6) rfl ?_); refine gL (some 28) Try.func6 #[.slice A0 l0.length c0] ?_; (with_reducible refine (spec_DrawMayDo.calls k _ _ l0 t497 t500 t503 t504 t505 t506 t507 t508 _ ?side1 ?side2 A4.out).mono ?_); (case side1 => exact cB (HR0.out)); (case side2 => exact HC0.out); rintro e w10 ⟨v498, v501, rfl, ho0, ho1, hb⟩; refine ⟨_, rfl, ?_⟩; have n0_ := am (Kd.R_lower ho0 (below_size (sB HB.out))); have n1_ := am (Kd.R_lower ho1 (below_size (sB HB.out))); have n2_ := am (Kh (sB HB.out) hb); clear HB; have HO499 := n0_; have HO502 := n1_; have HB := n2_; clear n0_ n1_ n2_; (try clear hb); (try clear ho0); (try clear ho1)) | ((with_reducible refine gate_dst (N := 6) rfl ?_); (try (refine gate_guard (by rfl) ?_; dsimp only)); refine bE 6 #[.int .i64 0, .int .i64 0] 27 ?_; intro gb509 hg w11 hbox hb; have n0_ := am (Ko (rB HO499.out) hb); have n1_ := am (Ko (rB HO502.out) hb); have q_ := hbx_ (sB HB.out) hg hb; have n2_ := q_.1; have n3_ := am (hbox); have n4_ := q_.2; have n5_ := n4_; clear HO499; clear HO502; clear HB; have HO499 := n0_; have HO502 := n1_; have HB := n2_; have BK509 := n3_; have GW509 := n4_; have GE509 := n5_; clear n0_ n1_ n2_ n3_ n4_ n5_; clear hb hbox hg; obtain ⟨hcz12_0, hcz12_1, hfz12_0, hfz12_1⟩ := blk2 BK509.out; obtain ⟨Ao13, co13, eo13⟩ := Kd.R_slice HO499.out; subst eo13; obtain ⟨Ao14, co14, eo14⟩ := Kd.R_slice HO502.out; subst eo14) | ((with_reducible refine gate_callee (f := 7) rfl ?_); refine gL (some 43) Try.func7 #[.slice Ao13 t497.length co13, .slice Ao14 t500.length co14, .int .i64 t503, .agg #[.int .i64 t504, .int .i64 t505], .int .i64 t506, .int .i64 t507, .bool t508] ?_; (with_reducible refine (impl_MayDo.calls k _ _ t497 _ _ t500 t503 t504 t505 t506 t507 t508 t510 _ ?side1 ?side2 ?side3 ?side4 A5.out).mono ?_); (case side1 => refine (Kq (e := 35) (base := w.heap.size) (ok := fun k_ => True) (n := t497.length) (c := co13) ?_).2.2; exact (by (with_reducible repeat (first | apply Kd.R_alloc | apply Kd.R_drewN | apply Kd.R_drew)); exact (Kt (Kd.R_far (p := ⟨gb509, 1, none⟩) (Kd.R_far (p := ⟨gb509, 0, none⟩) (Kd.R_types HO499.out BK509.out (by decide)) (fun _ hk => hk.2) (.int .i64 t504)) (fun _ hk => hk.2) (.int .i64 t505)) (fun _ h_ => h_.1)))); (case side2 => exact (Kq HO499.out).2.1); (case side3 => refine (Kq (e := 70) (base := w.heap.size) (ok := fun k_ => True) (n := t500.length) (c := co14) ?_).2.2; exact (by (with_reducible repeat (first | apply Kd.R_alloc | apply Kd.R_drewN | apply Kd.R_drew)); exact (Kt (Kd.R_far (p := ⟨gb509, 1, none⟩) (Kd.R_far (p := ⟨gb509, 0, none⟩) (Kd.R_types HO502.out BK509.out (by decide)) (fun _ hk => hk.2) (.int .i64 t504)) (fun _ hk => hk.2) (.int .i64 t505)) (fun _ h_ => h_.1)))); (case side4 => exact (Kq HO502.out).2.1); rintro e w15 ⟨rfl, hb⟩; refine ⟨_, rfl, ?_⟩; replace HO499 := am (Ko (by (with_reducible repeat (first | apply Kd.R_alloc | apply Kd.R_drewN | apply Kd.R_drew)); exact (Kt (Kd.R_far (p := ⟨gb509, 1, none⟩) (Kd.R_far (p := ⟨gb509, 0, none⟩) (Kd.R_types HO499.out BK509.out (by decide)) (fun _ hk => hk.2) (.int .i64 t504)) (fun _ hk => hk.2) (.int .i64 t505)) (fun _ h_ => h_.1))) hb); replace HO502 := am (Ko (by (with_reducible repeat (first | apply Kd.R_alloc | apply Kd.R_drewN | apply Kd.R_drew)); exact (Kt (Kd.R_far (p := ⟨gb509, 1, none⟩) (Kd.R_far (p := ⟨gb509, 0, none⟩) (Kd.R_types HO502.out BK509.out (by decide)) (fun _ hk => hk.2) (.int .i64 t504)) (fun _ hk => hk.2) (.int .i64 t505)) (fun _ h_ => h_.1))) hb); replace BK509 := am (Kb (g := gb509) (o := .cells #[.int .i64 t504, .int .i64 t505] 27 (0, 0)) (by refine bB ?_; refine Kg (cs := #[.int .i64 t504, .int .i64 0]) ?_ 1 _ rfl; refine bB ?_; refine Kg (cs := #[.int .i64 0, .int .i64 0]) ?_ 0 _ rfl; refine bB ?_; exact BK509.out) hb); replace HB := am (Kh (sB HB.out) hb); (try clear hb)))
   have n0_ := am (Kd.R_drew HO499.out)
   have n1_ := am (Kd.R_drew HO502.out)
   have n2_ := am (blk_drew BK509.out)
   have n3_ := am (Ks HB.out)
   clear HO499
   clear HO502
   clear BK509
   clear HB
   have HO499 := n0_
   have HO502 := n1_
   have BK509 := n2_
   have HB := n3_
   clear n0_ n1_ n2_ n3_
   refine start_ (n := 15) (S := fun w' => w'.cell? ⟨gb509, 0, none⟩ = some (.int .i64 t504) ∧ w'.cell? ⟨gb509, 1, none⟩ = some (.int .i64 t505)) (ds := []) #[z,z,z,z,z,z,z,z,z,z,z,z,z,z,z] (by kernel_rfl) rfl rfl ⟨(Kk BK509.out 0).trans rfl, (Kk BK509.out 1).trans rfl⟩ (fun hHeld => ?_); refine with_tabW laws_FnNarrowed.tab5 laws_FnNarrowed.bits5 (fun HT_ HW_ => ?_)
   generalize w15.drew = w16 at HO499 HO502 BK509 HB hHeld ⊢
   refine pu 0 44 #[o,z,z,z,z,z,z,z,z,z,z,z,z,z,z] HT_ ?_
   refine pu 1 45 #[o,o,z,z,z,z,z,z,z,z,z,z,z,z,z] HT_ ?_
   refine pu 3 47 #[o,o,z,o,z,z,z,z,z,z,z,z,z,z,z] HT_ ?_
   refine pu 4 48 #[o,o,z,o,o,z,z,z,z,z,z,z,z,z,z] HT_ ?_
   refine pu 5 49 #[o,o,z,o,o,o,z,z,z,z,z,z,z,z,z] HT_ ?_
   refine pu 7 51 #[o,o,z,o,o,o,z,o,z,z,z,z,z,z,z] HT_ ?_
   refine pu 8 52 #[o,o,z,o,o,o,z,o,o,z,z,z,z,z,z] HT_ ?_
   refine pu 10 54 #[o,o,z,o,o,o,z,o,o,z,o,z,z,z,z] HT_ ?_
   refine pu 11 55 #[o,o,z,o,o,o,z,o,o,z,o,o,z,z,z] HT_ ?_
   refine pu 12 56 #[o,o,z,o,o,o,z,o,o,z,o,o,o,z,z] HT_ ?_
   refine take_ (i := 2) (N := some 46) (v := ?_) (a' := ?_) #[o,o,o,o,o,o,z,o,o,z,o,o,o,z,z] rfl rfl (take_ofW HT_.out HW_.out (by kernel_rfl)) (fun _ _ _ h => h) (Or.inl ⟨by rfl, ?_⟩) hHeld ?_ ?_
   rotate_left
   ·rintro w' ⟨s0, s1⟩
    go_simp
    with_reducible rfl
   rotate_left
   ·simp only [Act.put, qa, qb, qc, i64_w, i32_w]
    rfl
   refine take_ (i := 9) (N := some 53) (v := ?_) (a' := ?_) #[o,o,o,o,o,o,z,o,o,o,o,o,o,z,z] rfl rfl (take_ofW HT_.out HW_.out (by kernel_rfl)) (fun _ _ _ h => h) (Or.inl ⟨by rfl, ?_⟩) hHeld ?_ ?_
   rotate_left
   ·rintro w' ⟨s0, s1⟩
    go_simp
    with_reducible rfl
   rotate_left
   ·simp only [Act.put, qa, qb, qc, i64_w, i32_w]
    rfl
   refine one_ (i := 6) (N := some 50) #[o,o,o,o,o,o,o,o,o,o,o,o,o,z,z] rfl rfl (one_of HT_.out (by kernel_rfl)) (by decide) (fun K hK => ?_)
   refine gS Try.func8 #[.slice Ao13 t497.length co13, .int .i64 t503, .agg #[.int .i64 t504, .int .i64 t505], .int .i64 t506, .int .i64 t507, .bool t508] ?_
   with_reducible refine (impl_IsAllowed.calls k _ _ t497 t503 t504 t505 t506 t507 t508 t511 _ ?side1 ?side2 A6.out).mono ?_
   (case side1 => exact cB ((Kq HO499.out).2.2))
   (case side2 => exact (Kq HO499.out).2.1)
   rintro e w17 ⟨rfl, hb⟩
   refine ⟨_, rfl, ?_⟩
   replace HO499 := am (Ko (rB HO499.out) hb)
   replace HO502 := am (Ko (rB HO502.out) hb)
   replace BK509 := am (Kb (bB BK509.out) hb)
   replace HB := am (Kh (sB HB.out) hb)
   (try clear hb)
   (try clear hb2)
   (try clear hk)
   (try clear hi)
   refine hK.out _ _ ⟨(Kk BK509.out 0).trans rfl, (Kk BK509.out 1).trans rfl⟩ (fun hHeld => ?_)
   clear hK K
   refine norm_ (a' := ?_) ?_ ?_
   rotate_left
   ·show Act.put _ (some 50) _ = _
    simp only [Act.put, qa, qb, qc, i64_w, i32_w]
    rfl
   refine one_ (i := 13) (N := some 57) #[o,o,o,o,o,o,o,o,o,o,o,o,o,o,z] rfl rfl (one_of HT_.out (by kernel_rfl)) (by decide) (fun K hK => ?_)
   refine gS Try.func9 #[.slice Ao13 t497.length co13, .int .i64 t503, .agg #[.int .i64 t504, .int .i64 t505], .int .i64 t506, .int .i64 t507, .bool t508] ?_
   with_reducible refine (spec_IsAllowed.calls k _ _ t497 t503 t504 t505 t506 t507 t508 t512 _ ?side1 ?side2 A7.out).mono ?_
   (case side1 => exact cB ((Kq HO499.out).2.2))
   (case side2 => exact (Kq HO499.out).2.1)
   rintro e w18 ⟨rfl, hb⟩
   refine ⟨_, rfl, ?_⟩
   replace HO499 := am (Ko (rB HO499.out) hb)
   replace HO502 := am (Ko (rB HO502.out) hb)
   replace BK509 := am (Kb (bB BK509.out) hb)
   replace HB := am (Kh (sB HB.out) hb)
   (try clear hb)
   (try clear hb2)
   (try clear hk)
   (try clear hi)
   refine hK.out _ _ ⟨(Kk BK509.out 0).trans rfl, (Kk BK509.out 1).trans rfl⟩ (fun hHeld => ?_)
   clear hK K
   refine norm_ (a' := ?_) ?_ ?_
   rotate_left
   ·show Act.put _ (some 57) _ = _
    simp only [Act.put, qa, qb, qc, i64_w, i32_w]
    rfl
   refine pu 14 58 #[o,o,o,o,o,o,o,o,o,o,o,o,o,o,o] HT_ ?_
   refine done_ (done_of HT_.out (by kernel_rfl)) ?_
   go_upto_region 7 with (fail)
   go_cut [93] (fun v93 wc => ∃ (kq : Nat) (x93_8 : Bool), v93 = .bool x93_8 ∧ Aside0 (laws_FnNarrowed.j0 kq l0 t503 t506 t507 t508 x93_8 t504 t505 = some r) ∧ Aside0 (kq ≤ k) ∧ Aside0 (wc.heap[gb509]? = some (.cells #[.int .i64 t504, .int .i64 t505] 27 (0, 0))) ∧ Aside0 (Below w.heap.size w wc))
   case first =>
    have H := HC9.out
    clear HC9
    by_cases c19 : t510 = true
    ·subst c19
     replace H := hT H
     replace H := bO H
     obtain ⟨t513, A20, H⟩ := H
     by_cases c21 : t513 = true
     ·subst c21
      replace H := hT H
      replace H := bO H
      obtain ⟨t514, A22, H⟩ := H
      by_cases c23 : t514 = true
      ·subst c23
       replace H := hT H
       have H' := am H
       clear H
       try go_wp2
       replace HO499 := am (Kd.R_drew HO499.out)
       replace HO502 := am (Kd.R_drew HO502.out)
       replace BK509 := am (blk_drew BK509.out)
       replace HB := am (Ks HB.out)
       refine start_ (n := 35) (S := fun w' => w'.cell? ⟨gb509, 0, none⟩ = some (.int .i64 t504) ∧ w'.cell? ⟨gb509, 1, none⟩ = some (.int .i64 t505)) (ds := []) #[z,z,z,z,z,z,z,z,z,z,z,z,z,z,z,z,z,z,z,z,z,z,z,z,z,z,z,z,z,z,z,z,z,z,z] (by kernel_rfl) rfl rfl ⟨(Kk BK509.out 0).trans rfl, (Kk BK509.out 1).trans rfl⟩ (fun hHeld => ?_); refine with_tabW laws_FnNarrowed.tab7 laws_FnNarrowed.bits7 (fun HT_ HW_ => ?_)
       generalize w18.drew = w24 at HO499 HO502 BK509 HB hHeld ⊢
       refine pu 0 59 #[o,z,z,z,z,z,z,z,z,z,z,z,z,z,z,z,z,z,z,z,z,z,z,z,z,z,z,z,z,z,z,z,z,z,z] HT_ ?_
       refine pu 1 60 #[o,o,z,z,z,z,z,z,z,z,z,z,z,z,z,z,z,z,z,z,z,z,z,z,z,z,z,z,z,z,z,z,z,z,z] HT_ ?_
       refine pu 2 61 #[o,o,o,z,z,z,z,z,z,z,z,z,z,z,z,z,z,z,z,z,z,z,z,z,z,z,z,z,z,z,z,z,z,z,z] HT_ ?_
       refine pu 3 62 #[o,o,o,o,z,z,z,z,z,z,z,z,z,z,z,z,z,z,z,z,z,z,z,z,z,z,z,z,z,z,z,z,z,z,z] HT_ ?_
       refine pu 5 64 #[o,o,o,o,z,o,z,z,z,z,z,z,z,z,z,z,z,z,z,z,z,z,z,z,z,z,z,z,z,z,z,z,z,z,z] HT_ ?_
       refine pu 6 65 #[o,o,o,o,z,o,o,z,z,z,z,z,z,z,z,z,z,z,z,z,z,z,z,z,z,z,z,z,z,z,z,z,z,z,z] HT_ ?_
       refine pu 7 66 #[o,o,o,o,z,o,o,o,z,z,z,z,z,z,z,z,z,z,z,z,z,z,z,z,z,z,z,z,z,z,z,z,z,z,z] HT_ ?_
       refine take_ (i := 4) (N := some 63) (v := ?_) (a' := ?_) #[o,o,o,o,o,o,o,o,z,z,z,z,z,z,z,z,z,z,z,z,z,z,z,z,z,z,z,z,z,z,z,z,z,z,z] rfl rfl (take_ofW HT_.out HW_.out (by kernel_rfl)) (fun _ _ _ h => h) (Or.inl ⟨by rfl, ?_⟩) hHeld ?_ ?_
       rotate_left
       ·rintro w' ⟨s0, s1⟩
        go_simp
        with_reducible rfl
       rotate_left
       ·simp only [Act.put, qa, qb, qc, i64_w, i32_w]
        rfl
       refine one_ (i := 8) (N := some 67) #[o,o,o,o,o,o,o,o,o,z,z,z,z,z,z,z,z,z,z,z,z,z,z,z,z,z,z,z,z,z,z,z,z,z,z] rfl rfl (one_of HT_.out (by kernel_rfl)) (by decide) (fun K hK => ?_)
       refine gS Try.func8 #[.slice Ao13 t497.length co13, .int .i64 t503, .agg #[.int .i64 t504, .int .i64 t505], .int .i64 t506, .int .i64 t507, .bool t508] ?_
       with_reducible refine (impl_IsAllowed.calls k _ _ t497 t503 t504 t505 t506 t507 t508 true _ ?side1 ?side2 A20.out).mono ?_
       (case side1 => exact cB ((Kq HO499.out).2.2))
       (case side2 => exact (Kq HO499.out).2.1)
       rintro e w25 ⟨rfl, hb⟩
       refine ⟨_, rfl, ?_⟩
       replace HO499 := am (Ko (rB HO499.out) hb)
       replace HO502 := am (Ko (rB HO502.out) hb)
       replace BK509 := am (Kb (bB BK509.out) hb)
       replace HB := am (Kh (sB HB.out) hb)
       (try clear hb)
       (try clear hb2)
       (try clear hk)
       (try clear hi)
       refine hK.out _ _ ⟨(Kk BK509.out 0).trans rfl, (Kk BK509.out 1).trans rfl⟩ (fun hHeld => ?_)
       clear hK K
       refine norm_ (a' := ?_) ?_ ?_
       rotate_left
       ·show Act.put _ (some 67) _ = _
        simp only [Act.put, qa, qb, qc, i64_w, i32_w]
        rfl
       refine pu 9 68 #[o,o,o,o,o,o,o,o,o,o,z,z,z,z,z,z,z,z,z,z,z,z,z,z,z,z,z,z,z,z,z,z,z,z,z] HT_ ?_
       refine pu 10 69 #[o,o,o,o,o,o,o,o,o,o,o,z,z,z,z,z,z,z,z,z,z,z,z,z,z,z,z,z,z,z,z,z,z,z,z] HT_ ?_
       refine pu 11 70 #[o,o,o,o,o,o,o,o,o,o,o,o,z,z,z,z,z,z,z,z,z,z,z,z,z,z,z,z,z,z,z,z,z,z,z] HT_ ?_
       refine pu 12 71 #[o,o,o,o,o,o,o,o,o,o,o,o,o,z,z,z,z,z,z,z,z,z,z,z,z,z,z,z,z,z,z,z,z,z,z] HT_ ?_
       refine pu 14 73 #[o,o,o,o,o,o,o,o,o,o,o,o,o,z,o,z,z,z,z,z,z,z,z,z,z,z,z,z,z,z,z,z,z,z,z] HT_ ?_
       refine take_ (i := 13) (N := some 72) (v := ?_) (a' := ?_) #[o,o,o,o,o,o,o,o,o,o,o,o,o,o,o,z,z,z,z,z,z,z,z,z,z,z,z,z,z,z,z,z,z,z,z] rfl rfl (take_ofW HT_.out HW_.out (by kernel_rfl)) (fun _ _ _ h => h) (Or.inl ⟨by rfl, ?_⟩) hHeld ?_ ?_
       rotate_left
       ·rintro w' ⟨s0, s1⟩
        go_simp
        with_reducible rfl
       rotate_left
       ·simp only [Act.put, qa, qb, qc, i64_w, i32_w]
        rfl
       refine one_ (i := 15) (N := some 74) #[o,o,o,o,o,o,o,o,o,o,o,o,o,o,o,o,z,z,z,z,z,z,z,z,z,z,z,z,z,z,z,z,z,z,z] rfl rfl (one_of HT_.out (by kernel_rfl)) (by decide) (fun K hK => ?_)
       refine gS Try.func10 #[.slice Ao14 t500.length co14, .int .i64 t503, .agg #[.int .i64 t504, .int .i64 t505], .int .i64 t506] ?_
       with_reducible refine (impl_IsDenied.calls k _ _ t500 t503 t504 t505 t506 true _ ?side1 ?side2 A22.out).mono ?_
       (case side1 => exact cB ((Kq HO502.out).2.2))
       (case side2 => exact (Kq HO502.out).2.1)
       rintro e w26 ⟨rfl, hb⟩
       refine ⟨_, rfl, ?_⟩
       replace HO499 := am (Ko (rB HO499.out) hb)
       replace HO502 := am (Ko (rB HO502.out) hb)
       replace BK509 := am (Kb (bB BK509.out) hb)
       replace HB := am (Kh (sB HB.out) hb)
       (try clear hb)
       (try clear hb2)
       (try clear hk)
       (try clear hi)
       refine hK.out _ _ ⟨(Kk BK509.out 0).trans rfl, (Kk BK509.out 1).trans rfl⟩ (fun hHeld => ?_)
       clear hK K
       refine norm_ (a' := ?_) ?_ ?_
       rotate_left
       ·show Act.put _ (some 74) _ = _
        simp only [Act.put, qa, qb, qc, i64_w, i32_w]
        rfl
       refine pu 16 75 #[o,o,o,o,o,o,o,o,o,o,o,o,o,o,o,o,o,z,z,z,z,z,z,z,z,z,z,z,z,z,z,z,z,z,z] HT_ ?_
       refine pu 17 76 #[o,o,o,o,o,o,o,o,o,o,o,o,o,o,o,o,o,o,z,z,z,z,z,z,z,z,z,z,z,z,z,z,z,z,z] HT_ ?_
       refine pu 18 77 #[o,o,o,o,o,o,o,o,o,o,o,o,o,o,o,o,o,o,o,z,z,z,z,z,z,z,z,z,z,z,z,z,z,z,z] HT_ ?_
       refine pn 19 78 #[o,o,o,o,o,o,o,o,o,o,o,o,o,o,o,o,o,o,o,o,z,z,z,z,z,z,z,z,z,z,z,z,z,z,z] HT_ ?_
       refine pn 20 79 #[o,o,o,o,o,o,o,o,o,o,o,o,o,o,o,o,o,o,o,o,o,z,z,z,z,z,z,z,z,z,z,z,z,z,z] HT_ ?_
       refine pn 21 80 #[o,o,o,o,o,o,o,o,o,o,o,o,o,o,o,o,o,o,o,o,o,o,z,z,z,z,z,z,z,z,z,z,z,z,z] HT_ ?_
       refine pn 22 81 #[o,o,o,o,o,o,o,o,o,o,o,o,o,o,o,o,o,o,o,o,o,o,o,z,z,z,z,z,z,z,z,z,z,z,z] HT_ ?_
       refine pn 23 82 #[o,o,o,o,o,o,o,o,o,o,o,o,o,o,o,o,o,o,o,o,o,o,o,o,z,z,z,z,z,z,z,z,z,z,z] HT_ ?_
       refine pn 24 83 #[o,o,o,o,o,o,o,o,o,o,o,o,o,o,o,o,o,o,o,o,o,o,o,o,o,z,z,z,z,z,z,z,z,z,z] HT_ ?_
       refine pn 25 84 #[o,o,o,o,o,o,o,o,o,o,o,o,o,o,o,o,o,o,o,o,o,o,o,o,o,o,z,z,z,z,z,z,z,z,z] HT_ ?_
       refine pn 26 85 #[o,o,o,o,o,o,o,o,o,o,o,o,o,o,o,o,o,o,o,o,o,o,o,o,o,o,o,z,z,z,z,z,z,z,z] HT_ ?_
       refine pn 27 86 #[o,o,o,o,o,o,o,o,o,o,o,o,o,o,o,o,o,o,o,o,o,o,o,o,o,o,o,o,z,z,z,z,z,z,z] HT_ ?_
       refine pn 28 87 #[o,o,o,o,o,o,o,o,o,o,o,o,o,o,o,o,o,o,o,o,o,o,o,o,o,o,o,o,o,z,z,z,z,z,z] HT_ ?_
       refine pn 29 88 #[o,o,o,o,o,o,o,o,o,o,o,o,o,o,o,o,o,o,o,o,o,o,o,o,o,o,o,o,o,o,z,z,z,z,z] HT_ ?_
       refine pn 30 89 #[o,o,o,o,o,o,o,o,o,o,o,o,o,o,o,o,o,o,o,o,o,o,o,o,o,o,o,o,o,o,o,z,z,z,z] HT_ ?_
       refine pn 31 90 #[o,o,o,o,o,o,o,o,o,o,o,o,o,o,o,o,o,o,o,o,o,o,o,o,o,o,o,o,o,o,o,o,z,z,z] HT_ ?_
       refine pn 32 91 #[o,o,o,o,o,o,o,o,o,o,o,o,o,o,o,o,o,o,o,o,o,o,o,o,o,o,o,o,o,o,o,o,o,z,z] HT_ ?_
       refine pn 33 92 #[o,o,o,o,o,o,o,o,o,o,o,o,o,o,o,o,o,o,o,o,o,o,o,o,o,o,o,o,o,o,o,o,o,o,z] HT_ ?_
       refine pu 34 93 #[o,o,o,o,o,o,o,o,o,o,o,o,o,o,o,o,o,o,o,o,o,o,o,o,o,o,o,o,o,o,o,o,o,o,o] HT_ ?_
       refine done_ (done_of HT_.out (by kernel_rfl)) ?_
       try go_wp2
       go_meet
       case rel => exact ⟨_, (true), (by first | rfl | (simp; done) | (simp [*]; done)), H', ⟨by first | omega | exact Nat.le_refl _⟩, ⟨bB BK509.out⟩, ⟨sB HB.out⟩⟩
      ·replace c23 := bF c23
       subst c23
       replace H := hF H
       replace H := bO H
       obtain ⟨t515, A27, H⟩ := H
       replace H := bO H
       obtain ⟨t516, A28, H⟩ := H
       have H' := am H
       clear H
       try go_wp2
       replace HO499 := am (Kd.R_drew HO499.out)
       replace HO502 := am (Kd.R_drew HO502.out)
       replace BK509 := am (blk_drew BK509.out)
       replace HB := am (Ks HB.out)
       refine start_ (n := 35) (S := fun w' => w'.cell? ⟨gb509, 0, none⟩ = some (.int .i64 t504) ∧ w'.cell? ⟨gb509, 1, none⟩ = some (.int .i64 t505)) (ds := []) #[z,z,z,z,z,z,z,z,z,z,z,z,z,z,z,z,z,z,z,z,z,z,z,z,z,z,z,z,z,z,z,z,z,z,z] (by kernel_rfl) rfl rfl ⟨(Kk BK509.out 0).trans rfl, (Kk BK509.out 1).trans rfl⟩ (fun hHeld => ?_); refine with_tabW laws_FnNarrowed.tab7 laws_FnNarrowed.bits7 (fun HT_ HW_ => ?_)
       generalize w18.drew = w29 at HO499 HO502 BK509 HB hHeld ⊢
       refine pu 0 59 #[o,z,z,z,z,z,z,z,z,z,z,z,z,z,z,z,z,z,z,z,z,z,z,z,z,z,z,z,z,z,z,z,z,z,z] HT_ ?_
       refine pu 1 60 #[o,o,z,z,z,z,z,z,z,z,z,z,z,z,z,z,z,z,z,z,z,z,z,z,z,z,z,z,z,z,z,z,z,z,z] HT_ ?_
       refine pu 2 61 #[o,o,o,z,z,z,z,z,z,z,z,z,z,z,z,z,z,z,z,z,z,z,z,z,z,z,z,z,z,z,z,z,z,z,z] HT_ ?_
       refine pu 3 62 #[o,o,o,o,z,z,z,z,z,z,z,z,z,z,z,z,z,z,z,z,z,z,z,z,z,z,z,z,z,z,z,z,z,z,z] HT_ ?_
       refine pu 5 64 #[o,o,o,o,z,o,z,z,z,z,z,z,z,z,z,z,z,z,z,z,z,z,z,z,z,z,z,z,z,z,z,z,z,z,z] HT_ ?_
       refine pu 6 65 #[o,o,o,o,z,o,o,z,z,z,z,z,z,z,z,z,z,z,z,z,z,z,z,z,z,z,z,z,z,z,z,z,z,z,z] HT_ ?_
       refine pu 7 66 #[o,o,o,o,z,o,o,o,z,z,z,z,z,z,z,z,z,z,z,z,z,z,z,z,z,z,z,z,z,z,z,z,z,z,z] HT_ ?_
       refine take_ (i := 4) (N := some 63) (v := ?_) (a' := ?_) #[o,o,o,o,o,o,o,o,z,z,z,z,z,z,z,z,z,z,z,z,z,z,z,z,z,z,z,z,z,z,z,z,z,z,z] rfl rfl (take_ofW HT_.out HW_.out (by kernel_rfl)) (fun _ _ _ h => h) (Or.inl ⟨by rfl, ?_⟩) hHeld ?_ ?_
       rotate_left
       ·rintro w' ⟨s0, s1⟩
        go_simp
        with_reducible rfl
       rotate_left
       ·simp only [Act.put, qa, qb, qc, i64_w, i32_w]
        rfl
       refine one_ (i := 8) (N := some 67) #[o,o,o,o,o,o,o,o,o,z,z,z,z,z,z,z,z,z,z,z,z,z,z,z,z,z,z,z,z,z,z,z,z,z,z] rfl rfl (one_of HT_.out (by kernel_rfl)) (by decide) (fun K hK => ?_)
       refine gS Try.func8 #[.slice Ao13 t497.length co13, .int .i64 t503, .agg #[.int .i64 t504, .int .i64 t505], .int .i64 t506, .int .i64 t507, .bool t508] ?_
       with_reducible refine (impl_IsAllowed.calls k _ _ t497 t503 t504 t505 t506 t507 t508 true _ ?side1 ?side2 A20.out).mono ?_
       (case side1 => exact cB ((Kq HO499.out).2.2))
       (case side2 => exact (Kq HO499.out).2.1)
       rintro e w30 ⟨rfl, hb⟩
       refine ⟨_, rfl, ?_⟩
       replace HO499 := am (Ko (rB HO499.out) hb)
       replace HO502 := am (Ko (rB HO502.out) hb)
       replace BK509 := am (Kb (bB BK509.out) hb)
       replace HB := am (Kh (sB HB.out) hb)
       (try clear hb)
       (try clear hb2)
       (try clear hk)
       (try clear hi)
       refine hK.out _ _ ⟨(Kk BK509.out 0).trans rfl, (Kk BK509.out 1).trans rfl⟩ (fun hHeld => ?_)
       clear hK K
       refine norm_ (a' := ?_) ?_ ?_
       rotate_left
       ·show Act.put _ (some 67) _ = _
        simp only [Act.put, qa, qb, qc, i64_w, i32_w]
        rfl
       refine pu 9 68 #[o,o,o,o,o,o,o,o,o,o,z,z,z,z,z,z,z,z,z,z,z,z,z,z,z,z,z,z,z,z,z,z,z,z,z] HT_ ?_
       refine pu 10 69 #[o,o,o,o,o,o,o,o,o,o,o,z,z,z,z,z,z,z,z,z,z,z,z,z,z,z,z,z,z,z,z,z,z,z,z] HT_ ?_
       refine pu 11 70 #[o,o,o,o,o,o,o,o,o,o,o,o,z,z,z,z,z,z,z,z,z,z,z,z,z,z,z,z,z,z,z,z,z,z,z] HT_ ?_
       refine pu 12 71 #[o,o,o,o,o,o,o,o,o,o,o,o,o,z,z,z,z,z,z,z,z,z,z,z,z,z,z,z,z,z,z,z,z,z,z] HT_ ?_
       refine pu 14 73 #[o,o,o,o,o,o,o,o,o,o,o,o,o,z,o,z,z,z,z,z,z,z,z,z,z,z,z,z,z,z,z,z,z,z,z] HT_ ?_
       refine take_ (i := 13) (N := some 72) (v := ?_) (a' := ?_) #[o,o,o,o,o,o,o,o,o,o,o,o,o,o,o,z,z,z,z,z,z,z,z,z,z,z,z,z,z,z,z,z,z,z,z] rfl rfl (take_ofW HT_.out HW_.out (by kernel_rfl)) (fun _ _ _ h => h) (Or.inl ⟨by rfl, ?_⟩) hHeld ?_ ?_
       rotate_left
       ·rintro w' ⟨s0, s1⟩
        go_simp
        with_reducible rfl
       rotate_left
       ·simp only [Act.put, qa, qb, qc, i64_w, i32_w]
        rfl
       refine one_ (i := 15) (N := some 74) #[o,o,o,o,o,o,o,o,o,o,o,o,o,o,o,o,z,z,z,z,z,z,z,z,z,z,z,z,z,z,z,z,z,z,z] rfl rfl (one_of HT_.out (by kernel_rfl)) (by decide) (fun K hK => ?_)
       refine gS Try.func10 #[.slice Ao14 t500.length co14, .int .i64 t503, .agg #[.int .i64 t504, .int .i64 t505], .int .i64 t506] ?_
       with_reducible refine (impl_IsDenied.calls k _ _ t500 t503 t504 t505 t506 false _ ?side1 ?side2 A22.out).mono ?_
       (case side1 => exact cB ((Kq HO502.out).2.2))
       (case side2 => exact (Kq HO502.out).2.1)
       rintro e w31 ⟨rfl, hb⟩
       refine ⟨_, rfl, ?_⟩
       replace HO499 := am (Ko (rB HO499.out) hb)
       replace HO502 := am (Ko (rB HO502.out) hb)
       replace BK509 := am (Kb (bB BK509.out) hb)
       replace HB := am (Kh (sB HB.out) hb)
       (try clear hb)
       (try clear hb2)
       (try clear hk)
       (try clear hi)
       refine hK.out _ _ ⟨(Kk BK509.out 0).trans rfl, (Kk BK509.out 1).trans rfl⟩ (fun hHeld => ?_)
       clear hK K
       refine norm_ (a' := ?_) ?_ ?_
       rotate_left
       ·show Act.put _ (some 74) _ = _
        simp only [Act.put, qa, qb, qc, i64_w, i32_w]
        rfl
       refine pu 16 75 #[o,o,o,o,o,o,o,o,o,o,o,o,o,o,o,o,o,z,z,z,z,z,z,z,z,z,z,z,z,z,z,z,z,z,z] HT_ ?_
       refine pu 17 76 #[o,o,o,o,o,o,o,o,o,o,o,o,o,o,o,o,o,o,z,z,z,z,z,z,z,z,z,z,z,z,z,z,z,z,z] HT_ ?_
       refine pu 18 77 #[o,o,o,o,o,o,o,o,o,o,o,o,o,o,o,o,o,o,o,z,z,z,z,z,z,z,z,z,z,z,z,z,z,z,z] HT_ ?_
       refine pu 19 78 #[o,o,o,o,o,o,o,o,o,o,o,o,o,o,o,o,o,o,o,o,z,z,z,z,z,z,z,z,z,z,z,z,z,z,z] HT_ ?_
       refine pu 20 79 #[o,o,o,o,o,o,o,o,o,o,o,o,o,o,o,o,o,o,o,o,o,z,z,z,z,z,z,z,z,z,z,z,z,z,z] HT_ ?_
       refine pu 22 81 #[o,o,o,o,o,o,o,o,o,o,o,o,o,o,o,o,o,o,o,o,o,z,o,z,z,z,z,z,z,z,z,z,z,z,z] HT_ ?_
       refine pu 23 82 #[o,o,o,o,o,o,o,o,o,o,o,o,o,o,o,o,o,o,o,o,o,z,o,o,z,z,z,z,z,z,z,z,z,z,z] HT_ ?_
       refine pu 24 83 #[o,o,o,o,o,o,o,o,o,o,o,o,o,o,o,o,o,o,o,o,o,z,o,o,o,z,z,z,z,z,z,z,z,z,z] HT_ ?_
       refine pu 26 85 #[o,o,o,o,o,o,o,o,o,o,o,o,o,o,o,o,o,o,o,o,o,z,o,o,o,z,o,z,z,z,z,z,z,z,z] HT_ ?_
       refine pu 27 86 #[o,o,o,o,o,o,o,o,o,o,o,o,o,o,o,o,o,o,o,o,o,z,o,o,o,z,o,o,z,z,z,z,z,z,z] HT_ ?_
       refine pu 29 88 #[o,o,o,o,o,o,o,o,o,o,o,o,o,o,o,o,o,o,o,o,o,z,o,o,o,z,o,o,z,o,z,z,z,z,z] HT_ ?_
       refine pu 30 89 #[o,o,o,o,o,o,o,o,o,o,o,o,o,o,o,o,o,o,o,o,o,z,o,o,o,z,o,o,z,o,o,z,z,z,z] HT_ ?_
       refine pu 31 90 #[o,o,o,o,o,o,o,o,o,o,o,o,o,o,o,o,o,o,o,o,o,z,o,o,o,z,o,o,z,o,o,o,z,z,z] HT_ ?_
       refine take_ (i := 21) (N := some 80) (v := ?_) (a' := ?_) #[o,o,o,o,o,o,o,o,o,o,o,o,o,o,o,o,o,o,o,o,o,o,o,o,o,z,o,o,z,o,o,o,z,z,z] rfl rfl (take_ofW HT_.out HW_.out (by kernel_rfl)) (fun _ _ _ h => h) (Or.inl ⟨by rfl, ?_⟩) hHeld ?_ ?_
       rotate_left
       ·rintro w' ⟨s0, s1⟩
        go_simp
        with_reducible rfl
       rotate_left
       ·simp only [Act.put, qa, qb, qc, i64_w, i32_w]
        rfl
       refine take_ (i := 28) (N := some 87) (v := ?_) (a' := ?_) #[o,o,o,o,o,o,o,o,o,o,o,o,o,o,o,o,o,o,o,o,o,o,o,o,o,z,o,o,o,o,o,o,z,z,z] rfl rfl (take_ofW HT_.out HW_.out (by kernel_rfl)) (fun _ _ _ h => h) (Or.inl ⟨by rfl, ?_⟩) hHeld ?_ ?_
       rotate_left
       ·rintro w' ⟨s0, s1⟩
        go_simp
        with_reducible rfl
       rotate_left
       ·simp only [Act.put, qa, qb, qc, i64_w, i32_w]
        rfl
       refine one_ (i := 25) (N := some 84) #[o,o,o,o,o,o,o,o,o,o,o,o,o,o,o,o,o,o,o,o,o,o,o,o,o,o,o,o,o,o,o,o,z,z,z] rfl rfl (one_of HT_.out (by kernel_rfl)) (by decide) (fun K hK => ?_)
       refine gS Try.func7 #[.slice Ao13 t497.length co13, .slice none 0 0, .int .i64 t503, .agg #[.int .i64 t504, .int .i64 t505], .int .i64 t506, .int .i64 t507, .bool t508] ?_
       refine (impl_MayDo.calls k _ _ t497 _ _ ([] : List (S70)) t503 t504 t505 t506 t507 t508 t515 _ ?side1 ?side2 ?side3 ?side4 A27.out).mono ?_
       (case side1 => exact cB ((Kq HO499.out).2.2))
       (case side2 => exact (Kq HO499.out).2.1)
       (case side3 => exact Kd.C_nil _ _)
       (case side4 => exact Nat.le_refl _)
       rintro e w32 ⟨rfl, hb⟩
       refine ⟨_, rfl, ?_⟩
       replace HO499 := am (Ko (rB HO499.out) hb)
       replace HO502 := am (Ko (rB HO502.out) hb)
       replace BK509 := am (Kb (bB BK509.out) hb)
       replace HB := am (Kh (sB HB.out) hb)
       (try clear hb)
       (try clear hb2)
       (try clear hk)
       (try clear hi)
       refine hK.out _ _ ⟨(Kk BK509.out 0).trans rfl, (Kk BK509.out 1).trans rfl⟩ (fun hHeld => ?_)
       clear hK K
       refine norm_ (a' := ?_) ?_ ?_
       rotate_left
       ·show Act.put _ (some 84) _ = _
        simp only [Act.put, qa, qb, qc, i64_w, i32_w]
        rfl
       refine one_ (i := 32) (N := some 91) #[o,o,o,o,o,o,o,o,o,o,o,o,o,o,o,o,o,o,o,o,o,o,o,o,o,o,o,o,o,o,o,o,o,z,z] rfl rfl (one_of HT_.out (by kernel_rfl)) (by decide) (fun K hK => ?_)
       refine gS Try.func8 #[.slice Ao13 t497.length co13, .int .i64 t503, .agg #[.int .i64 t504, .int .i64 t505], .int .i64 t506, .int .i64 t507, .bool t508] ?_
       with_reducible refine (impl_IsAllowed.calls k _ _ t497 t503 t504 t505 t506 t507 t508 t516 _ ?side1 ?side2 A28.out).mono ?_
       (case side1 => exact cB ((Kq HO499.out).2.2))
       (case side2 => exact (Kq HO499.out).2.1)
       rintro e w33 ⟨rfl, hb⟩
       refine ⟨_, rfl, ?_⟩
       replace HO499 := am (Ko (rB HO499.out) hb)
       replace HO502 := am (Ko (rB HO502.out) hb)
       replace BK509 := am (Kb (bB BK509.out) hb)
       replace HB := am (Kh (sB HB.out) hb)
       (try clear hb)
       (try clear hb2)
       (try clear hk)
       (try clear hi)
       refine hK.out _ _ ⟨(Kk BK509.out 0).trans rfl, (Kk BK509.out 1).trans rfl⟩ (fun hHeld => ?_)
       clear hK K
       refine norm_ (a' := ?_) ?_ ?_
       rotate_left
       ·show Act.put _ (some 91) _ = _
        simp only [Act.put, qa, qb, qc, i64_w, i32_w]
        rfl
       refine pu 33 92 #[o,o,o,o,o,o,o,o,o,o,o,o,o,o,o,o,o,o,o,o,o,o,o,o,o,o,o,o,o,o,o,o,o,o,z] HT_ ?_
       refine pu 34 93 #[o,o,o,o,o,o,o,o,o,o,o,o,o,o,o,o,o,o,o,o,o,o,o,o,o,o,o,o,o,o,o,o,o,o,o] HT_ ?_
       refine done_ (done_of HT_.out (by kernel_rfl)) ?_
       try go_wp2
       go_meet
       case rel => exact ⟨_, ((t515 != t516)), (by first | rfl | (simp; done) | (simp [*]; done)), H', ⟨by first | omega | exact Nat.le_refl _⟩, ⟨bB BK509.out⟩, ⟨sB HB.out⟩⟩
     ·replace c21 := bF c21
      subst c21
      replace H := hF H
      have H' := am H
      clear H
      try go_wp2
      replace HO499 := am (Kd.R_drew HO499.out)
      replace HO502 := am (Kd.R_drew HO502.out)
      replace BK509 := am (blk_drew BK509.out)
      replace HB := am (Ks HB.out)
      refine start_ (n := 35) (S := fun w' => w'.cell? ⟨gb509, 0, none⟩ = some (.int .i64 t504) ∧ w'.cell? ⟨gb509, 1, none⟩ = some (.int .i64 t505)) (ds := []) #[z,z,z,z,z,z,z,z,z,z,z,z,z,z,z,z,z,z,z,z,z,z,z,z,z,z,z,z,z,z,z,z,z,z,z] (by kernel_rfl) rfl rfl ⟨(Kk BK509.out 0).trans rfl, (Kk BK509.out 1).trans rfl⟩ (fun hHeld => ?_); refine with_tabW laws_FnNarrowed.tab7 laws_FnNarrowed.bits7 (fun HT_ HW_ => ?_)
      generalize w18.drew = w34 at HO499 HO502 BK509 HB hHeld ⊢
      refine pu 0 59 #[o,z,z,z,z,z,z,z,z,z,z,z,z,z,z,z,z,z,z,z,z,z,z,z,z,z,z,z,z,z,z,z,z,z,z] HT_ ?_
      refine pu 1 60 #[o,o,z,z,z,z,z,z,z,z,z,z,z,z,z,z,z,z,z,z,z,z,z,z,z,z,z,z,z,z,z,z,z,z,z] HT_ ?_
      refine pu 2 61 #[o,o,o,z,z,z,z,z,z,z,z,z,z,z,z,z,z,z,z,z,z,z,z,z,z,z,z,z,z,z,z,z,z,z,z] HT_ ?_
      refine pu 3 62 #[o,o,o,o,z,z,z,z,z,z,z,z,z,z,z,z,z,z,z,z,z,z,z,z,z,z,z,z,z,z,z,z,z,z,z] HT_ ?_
      refine pu 5 64 #[o,o,o,o,z,o,z,z,z,z,z,z,z,z,z,z,z,z,z,z,z,z,z,z,z,z,z,z,z,z,z,z,z,z,z] HT_ ?_
      refine pu 6 65 #[o,o,o,o,z,o,o,z,z,z,z,z,z,z,z,z,z,z,z,z,z,z,z,z,z,z,z,z,z,z,z,z,z,z,z] HT_ ?_
      refine pu 7 66 #[o,o,o,o,z,o,o,o,z,z,z,z,z,z,z,z,z,z,z,z,z,z,z,z,z,z,z,z,z,z,z,z,z,z,z] HT_ ?_
      refine take_ (i := 4) (N := some 63) (v := ?_) (a' := ?_) #[o,o,o,o,o,o,o,o,z,z,z,z,z,z,z,z,z,z,z,z,z,z,z,z,z,z,z,z,z,z,z,z,z,z,z] rfl rfl (take_ofW HT_.out HW_.out (by kernel_rfl)) (fun _ _ _ h => h) (Or.inl ⟨by rfl, ?_⟩) hHeld ?_ ?_
      rotate_left
      ·rintro w' ⟨s0, s1⟩
       go_simp
       with_reducible rfl
      rotate_left
      ·simp only [Act.put, qa, qb, qc, i64_w, i32_w]
       rfl
      refine one_ (i := 8) (N := some 67) #[o,o,o,o,o,o,o,o,o,z,z,z,z,z,z,z,z,z,z,z,z,z,z,z,z,z,z,z,z,z,z,z,z,z,z] rfl rfl (one_of HT_.out (by kernel_rfl)) (by decide) (fun K hK => ?_)
      refine gS Try.func8 #[.slice Ao13 t497.length co13, .int .i64 t503, .agg #[.int .i64 t504, .int .i64 t505], .int .i64 t506, .int .i64 t507, .bool t508] ?_
      with_reducible refine (impl_IsAllowed.calls k _ _ t497 t503 t504 t505 t506 t507 t508 false _ ?side1 ?side2 A20.out).mono ?_
      (case side1 => exact cB ((Kq HO499.out).2.2))
      (case side2 => exact (Kq HO499.out).2.1)
      rintro e w35 ⟨rfl, hb⟩
      refine ⟨_, rfl, ?_⟩
      replace HO499 := am (Ko (rB HO499.out) hb)
      replace HO502 := am (Ko (rB HO502.out) hb)
      replace BK509 := am (Kb (bB BK509.out) hb)
      replace HB := am (Kh (sB HB.out) hb)
      (try clear hb)
      (try clear hb2)
      (try clear hk)
      (try clear hi)
      refine hK.out _ _ ⟨(Kk BK509.out 0).trans rfl, (Kk BK509.out 1).trans rfl⟩ (fun hHeld => ?_)
      clear hK K
      refine norm_ (a' := ?_) ?_ ?_
      rotate_left
      ·show Act.put _ (some 67) _ = _
       simp only [Act.put, qa, qb, qc, i64_w, i32_w]
       rfl
      refine pu 9 68 #[o,o,o,o,o,o,o,o,o,o,z,z,z,z,z,z,z,z,z,z,z,z,z,z,z,z,z,z,z,z,z,z,z,z,z] HT_ ?_
      refine pu 10 69 #[o,o,o,o,o,o,o,o,o,o,o,z,z,z,z,z,z,z,z,z,z,z,z,z,z,z,z,z,z,z,z,z,z,z,z] HT_ ?_
      refine pn 11 70 #[o,o,o,o,o,o,o,o,o,o,o,o,z,z,z,z,z,z,z,z,z,z,z,z,z,z,z,z,z,z,z,z,z,z,z] HT_ ?_
      refine pn 12 71 #[o,o,o,o,o,o,o,o,o,o,o,o,o,z,z,z,z,z,z,z,z,z,z,z,z,z,z,z,z,z,z,z,z,z,z] HT_ ?_
      refine pn 13 72 #[o,o,o,o,o,o,o,o,o,o,o,o,o,o,z,z,z,z,z,z,z,z,z,z,z,z,z,z,z,z,z,z,z,z,z] HT_ ?_
      refine pn 14 73 #[o,o,o,o,o,o,o,o,o,o,o,o,o,o,o,z,z,z,z,z,z,z,z,z,z,z,z,z,z,z,z,z,z,z,z] HT_ ?_
      refine pn 15 74 #[o,o,o,o,o,o,o,o,o,o,o,o,o,o,o,o,z,z,z,z,z,z,z,z,z,z,z,z,z,z,z,z,z,z,z] HT_ ?_
      refine pu 16 75 #[o,o,o,o,o,o,o,o,o,o,o,o,o,o,o,o,o,z,z,z,z,z,z,z,z,z,z,z,z,z,z,z,z,z,z] HT_ ?_
      refine pu 17 76 #[o,o,o,o,o,o,o,o,o,o,o,o,o,o,o,o,o,o,z,z,z,z,z,z,z,z,z,z,z,z,z,z,z,z,z] HT_ ?_
      refine pu 18 77 #[o,o,o,o,o,o,o,o,o,o,o,o,o,o,o,o,o,o,o,z,z,z,z,z,z,z,z,z,z,z,z,z,z,z,z] HT_ ?_
      refine pn 19 78 #[o,o,o,o,o,o,o,o,o,o,o,o,o,o,o,o,o,o,o,o,z,z,z,z,z,z,z,z,z,z,z,z,z,z,z] HT_ ?_
      refine pn 20 79 #[o,o,o,o,o,o,o,o,o,o,o,o,o,o,o,o,o,o,o,o,o,z,z,z,z,z,z,z,z,z,z,z,z,z,z] HT_ ?_
      refine pn 21 80 #[o,o,o,o,o,o,o,o,o,o,o,o,o,o,o,o,o,o,o,o,o,o,z,z,z,z,z,z,z,z,z,z,z,z,z] HT_ ?_
      refine pn 22 81 #[o,o,o,o,o,o,o,o,o,o,o,o,o,o,o,o,o,o,o,o,o,o,o,z,z,z,z,z,z,z,z,z,z,z,z] HT_ ?_
      refine pn 23 82 #[o,o,o,o,o,o,o,o,o,o,o,o,o,o,o,o,o,o,o,o,o,o,o,o,z,z,z,z,z,z,z,z,z,z,z] HT_ ?_
      refine pn 24 83 #[o,o,o,o,o,o,o,o,o,o,o,o,o,o,o,o,o,o,o,o,o,o,o,o,o,z,z,z,z,z,z,z,z,z,z] HT_ ?_
      refine pn 25 84 #[o,o,o,o,o,o,o,o,o,o,o,o,o,o,o,o,o,o,o,o,o,o,o,o,o,o,z,z,z,z,z,z,z,z,z] HT_ ?_
      refine pn 26 85 #[o,o,o,o,o,o,o,o,o,o,o,o,o,o,o,o,o,o,o,o,o,o,o,o,o,o,o,z,z,z,z,z,z,z,z] HT_ ?_
      refine pn 27 86 #[o,o,o,o,o,o,o,o,o,o,o,o,o,o,o,o,o,o,o,o,o,o,o,o,o,o,o,o,z,z,z,z,z,z,z] HT_ ?_
      refine pn 28 87 #[o,o,o,o,o,o,o,o,o,o,o,o,o,o,o,o,o,o,o,o,o,o,o,o,o,o,o,o,o,z,z,z,z,z,z] HT_ ?_
      refine pn 29 88 #[o,o,o,o,o,o,o,o,o,o,o,o,o,o,o,o,o,o,o,o,o,o,o,o,o,o,o,o,o,o,z,z,z,z,z] HT_ ?_
      refine pn 30 89 #[o,o,o,o,o,o,o,o,o,o,o,o,o,o,o,o,o,o,o,o,o,o,o,o,o,o,o,o,o,o,o,z,z,z,z] HT_ ?_
      refine pn 31 90 #[o,o,o,o,o,o,o,o,o,o,o,o,o,o,o,o,o,o,o,o,o,o,o,o,o,o,o,o,o,o,o,o,z,z,z] HT_ ?_
      refine pn 32 91 #[o,o,o,o,o,o,o,o,o,o,o,o,o,o,o,o,o,o,o,o,o,o,o,o,o,o,o,o,o,o,o,o,o,z,z] HT_ ?_
      refine pn 33 92 #[o,o,o,o,o,o,o,o,o,o,o,o,o,o,o,o,o,o,o,o,o,o,o,o,o,o,o,o,o,o,o,o,o,o,z] HT_ ?_
      refine pu 34 93 #[o,o,o,o,o,o,o,o,o,o,o,o,o,o,o,o,o,o,o,o,o,o,o,o,o,o,o,o,o,o,o,o,o,o,o] HT_ ?_
      refine done_ (done_of HT_.out (by kernel_rfl)) ?_
      try go_wp2
      go_meet
      case rel => exact ⟨_, (true), (by first | rfl | (simp; done) | (simp [*]; done)), H', ⟨by first | omega | exact Nat.le_refl _⟩, ⟨bB BK509.out⟩, ⟨sB HB.out⟩⟩
    ·replace c19 := bF c19
     subst c19
     replace H := hF H
     replace H := bO H
     obtain ⟨t517, A36, H⟩ := H
     replace H := bO H
     obtain ⟨t518, A37, H⟩ := H
     have H' := am H
     clear H
     try go_wp2
     replace HO499 := am (Kd.R_drew HO499.out)
     replace HO502 := am (Kd.R_drew HO502.out)
     replace BK509 := am (blk_drew BK509.out)
     replace HB := am (Ks HB.out)
     refine start_ (n := 35) (S := fun w' => w'.cell? ⟨gb509, 0, none⟩ = some (.int .i64 t504) ∧ w'.cell? ⟨gb509, 1, none⟩ = some (.int .i64 t505)) (ds := []) #[z,z,z,z,z,z,z,z,z,z,z,z,z,z,z,z,z,z,z,z,z,z,z,z,z,z,z,z,z,z,z,z,z,z,z] (by kernel_rfl) rfl rfl ⟨(Kk BK509.out 0).trans rfl, (Kk BK509.out 1).trans rfl⟩ (fun hHeld => ?_); refine with_tabW laws_FnNarrowed.tab7 laws_FnNarrowed.bits7 (fun HT_ HW_ => ?_)
     generalize w18.drew = w38 at HO499 HO502 BK509 HB hHeld ⊢
     refine pu 0 59 #[o,z,z,z,z,z,z,z,z,z,z,z,z,z,z,z,z,z,z,z,z,z,z,z,z,z,z,z,z,z,z,z,z,z,z] HT_ ?_
     refine pu 1 60 #[o,o,z,z,z,z,z,z,z,z,z,z,z,z,z,z,z,z,z,z,z,z,z,z,z,z,z,z,z,z,z,z,z,z,z] HT_ ?_
     refine pn 2 61 #[o,o,o,z,z,z,z,z,z,z,z,z,z,z,z,z,z,z,z,z,z,z,z,z,z,z,z,z,z,z,z,z,z,z,z] HT_ ?_
     refine pn 3 62 #[o,o,o,o,z,z,z,z,z,z,z,z,z,z,z,z,z,z,z,z,z,z,z,z,z,z,z,z,z,z,z,z,z,z,z] HT_ ?_
     refine pn 4 63 #[o,o,o,o,o,z,z,z,z,z,z,z,z,z,z,z,z,z,z,z,z,z,z,z,z,z,z,z,z,z,z,z,z,z,z] HT_ ?_
     refine pn 5 64 #[o,o,o,o,o,o,z,z,z,z,z,z,z,z,z,z,z,z,z,z,z,z,z,z,z,z,z,z,z,z,z,z,z,z,z] HT_ ?_
     refine pn 6 65 #[o,o,o,o,o,o,o,z,z,z,z,z,z,z,z,z,z,z,z,z,z,z,z,z,z,z,z,z,z,z,z,z,z,z,z] HT_ ?_
     refine pn 7 66 #[o,o,o,o,o,o,o,o,z,z,z,z,z,z,z,z,z,z,z,z,z,z,z,z,z,z,z,z,z,z,z,z,z,z,z] HT_ ?_
     refine pn 8 67 #[o,o,o,o,o,o,o,o,o,z,z,z,z,z,z,z,z,z,z,z,z,z,z,z,z,z,z,z,z,z,z,z,z,z,z] HT_ ?_
     refine pn 9 68 #[o,o,o,o,o,o,o,o,o,o,z,z,z,z,z,z,z,z,z,z,z,z,z,z,z,z,z,z,z,z,z,z,z,z,z] HT_ ?_
     refine pn 10 69 #[o,o,o,o,o,o,o,o,o,o,o,z,z,z,z,z,z,z,z,z,z,z,z,z,z,z,z,z,z,z,z,z,z,z,z] HT_ ?_
     refine pn 11 70 #[o,o,o,o,o,o,o,o,o,o,o,o,z,z,z,z,z,z,z,z,z,z,z,z,z,z,z,z,z,z,z,z,z,z,z] HT_ ?_
     refine pn 12 71 #[o,o,o,o,o,o,o,o,o,o,o,o,o,z,z,z,z,z,z,z,z,z,z,z,z,z,z,z,z,z,z,z,z,z,z] HT_ ?_
     refine pn 13 72 #[o,o,o,o,o,o,o,o,o,o,o,o,o,o,z,z,z,z,z,z,z,z,z,z,z,z,z,z,z,z,z,z,z,z,z] HT_ ?_
     refine pn 14 73 #[o,o,o,o,o,o,o,o,o,o,o,o,o,o,o,z,z,z,z,z,z,z,z,z,z,z,z,z,z,z,z,z,z,z,z] HT_ ?_
     refine pn 15 74 #[o,o,o,o,o,o,o,o,o,o,o,o,o,o,o,o,z,z,z,z,z,z,z,z,z,z,z,z,z,z,z,z,z,z,z] HT_ ?_
     refine pn 16 75 #[o,o,o,o,o,o,o,o,o,o,o,o,o,o,o,o,o,z,z,z,z,z,z,z,z,z,z,z,z,z,z,z,z,z,z] HT_ ?_
     refine pu 17 76 #[o,o,o,o,o,o,o,o,o,o,o,o,o,o,o,o,o,o,z,z,z,z,z,z,z,z,z,z,z,z,z,z,z,z,z] HT_ ?_
     refine pu 18 77 #[o,o,o,o,o,o,o,o,o,o,o,o,o,o,o,o,o,o,o,z,z,z,z,z,z,z,z,z,z,z,z,z,z,z,z] HT_ ?_
     refine pu 19 78 #[o,o,o,o,o,o,o,o,o,o,o,o,o,o,o,o,o,o,o,o,z,z,z,z,z,z,z,z,z,z,z,z,z,z,z] HT_ ?_
     refine pu 20 79 #[o,o,o,o,o,o,o,o,o,o,o,o,o,o,o,o,o,o,o,o,o,z,z,z,z,z,z,z,z,z,z,z,z,z,z] HT_ ?_
     refine pu 22 81 #[o,o,o,o,o,o,o,o,o,o,o,o,o,o,o,o,o,o,o,o,o,z,o,z,z,z,z,z,z,z,z,z,z,z,z] HT_ ?_
     refine pu 23 82 #[o,o,o,o,o,o,o,o,o,o,o,o,o,o,o,o,o,o,o,o,o,z,o,o,z,z,z,z,z,z,z,z,z,z,z] HT_ ?_
     refine pu 24 83 #[o,o,o,o,o,o,o,o,o,o,o,o,o,o,o,o,o,o,o,o,o,z,o,o,o,z,z,z,z,z,z,z,z,z,z] HT_ ?_
     refine pu 26 85 #[o,o,o,o,o,o,o,o,o,o,o,o,o,o,o,o,o,o,o,o,o,z,o,o,o,z,o,z,z,z,z,z,z,z,z] HT_ ?_
     refine pu 27 86 #[o,o,o,o,o,o,o,o,o,o,o,o,o,o,o,o,o,o,o,o,o,z,o,o,o,z,o,o,z,z,z,z,z,z,z] HT_ ?_
     refine pu 29 88 #[o,o,o,o,o,o,o,o,o,o,o,o,o,o,o,o,o,o,o,o,o,z,o,o,o,z,o,o,z,o,z,z,z,z,z] HT_ ?_
     refine pu 30 89 #[o,o,o,o,o,o,o,o,o,o,o,o,o,o,o,o,o,o,o,o,o,z,o,o,o,z,o,o,z,o,o,z,z,z,z] HT_ ?_
     refine pu 31 90 #[o,o,o,o,o,o,o,o,o,o,o,o,o,o,o,o,o,o,o,o,o,z,o,o,o,z,o,o,z,o,o,o,z,z,z] HT_ ?_
     refine take_ (i := 21) (N := some 80) (v := ?_) (a' := ?_) #[o,o,o,o,o,o,o,o,o,o,o,o,o,o,o,o,o,o,o,o,o,o,o,o,o,z,o,o,z,o,o,o,z,z,z] rfl rfl (take_ofW HT_.out HW_.out (by kernel_rfl)) (fun _ _ _ h => h) (Or.inl ⟨by rfl, ?_⟩) hHeld ?_ ?_
     rotate_left
     ·rintro w' ⟨s0, s1⟩
      go_simp
      with_reducible rfl
     rotate_left
     ·simp only [Act.put, qa, qb, qc, i64_w, i32_w]
      rfl
     refine take_ (i := 28) (N := some 87) (v := ?_) (a' := ?_) #[o,o,o,o,o,o,o,o,o,o,o,o,o,o,o,o,o,o,o,o,o,o,o,o,o,z,o,o,o,o,o,o,z,z,z] rfl rfl (take_ofW HT_.out HW_.out (by kernel_rfl)) (fun _ _ _ h => h) (Or.inl ⟨by rfl, ?_⟩) hHeld ?_ ?_
     rotate_left
     ·rintro w' ⟨s0, s1⟩
      go_simp
      with_reducible rfl
     rotate_left
     ·simp only [Act.put, qa, qb, qc, i64_w, i32_w]
      rfl
     refine one_ (i := 25) (N := some 84) #[o,o,o,o,o,o,o,o,o,o,o,o,o,o,o,o,o,o,o,o,o,o,o,o,o,o,o,o,o,o,o,o,z,z,z] rfl rfl (one_of HT_.out (by kernel_rfl)) (by decide) (fun K hK => ?_)
     refine gS Try.func7 #[.slice Ao13 t497.length co13, .slice none 0 0, .int .i64 t503, .agg #[.int .i64 t504, .int .i64 t505], .int .i64 t506, .int .i64 t507, .bool t508] ?_
     refine (impl_MayDo.calls k _ _ t497 _ _ ([] : List (S70)) t503 t504 t505 t506 t507 t508 t517 _ ?side1 ?side2 ?side3 ?side4 A36.out).mono ?_
     (case side1 => exact cB ((Kq HO499.out).2.2))
     (case side2 => exact (Kq HO499.out).2.1)
     (case side3 => exact Kd.C_nil _ _)
     (case side4 => exact Nat.le_refl _)
     rintro e w39 ⟨rfl, hb⟩
     refine ⟨_, rfl, ?_⟩
     replace HO499 := am (Ko (rB HO499.out) hb)
     replace HO502 := am (Ko (rB HO502.out) hb)
     replace BK509 := am (Kb (bB BK509.out) hb)
     replace HB := am (Kh (sB HB.out) hb)
     (try clear hb)
     (try clear hb2)
     (try clear hk)
     (try clear hi)
     refine hK.out _ _ ⟨(Kk BK509.out 0).trans rfl, (Kk BK509.out 1).trans rfl⟩ (fun hHeld => ?_)
     clear hK K
     refine norm_ (a' := ?_) ?_ ?_
     rotate_left
     ·show Act.put _ (some 84) _ = _
      simp only [Act.put, qa, qb, qc, i64_w, i32_w]
      rfl
     refine one_ (i := 32) (N := some 91) #[o,o,o,o,o,o,o,o,o,o,o,o,o,o,o,o,o,o,o,o,o,o,o,o,o,o,o,o,o,o,o,o,o,z,z] rfl rfl (one_of HT_.out (by kernel_rfl)) (by decide) (fun K hK => ?_)
     refine gS Try.func8 #[.slice Ao13 t497.length co13, .int .i64 t503, .agg #[.int .i64 t504, .int .i64 t505], .int .i64 t506, .int .i64 t507, .bool t508] ?_
     with_reducible refine (impl_IsAllowed.calls k _ _ t497 t503 t504 t505 t506 t507 t508 t518 _ ?side1 ?side2 A37.out).mono ?_
     (case side1 => exact cB ((Kq HO499.out).2.2))
     (case side2 => exact (Kq HO499.out).2.1)
     rintro e w40 ⟨rfl, hb⟩
     refine ⟨_, rfl, ?_⟩
     replace HO499 := am (Ko (rB HO499.out) hb)
     replace HO502 := am (Ko (rB HO502.out) hb)
     replace BK509 := am (Kb (bB BK509.out) hb)
     replace HB := am (Kh (sB HB.out) hb)
     (try clear hb)
     (try clear hb2)
     (try clear hk)
     (try clear hi)
     refine hK.out _ _ ⟨(Kk BK509.out 0).trans rfl, (Kk BK509.out 1).trans rfl⟩ (fun hHeld => ?_)
     clear hK K
     refine norm_ (a' := ?_) ?_ ?_
     rotate_left
     ·show Act.put _ (some 91) _ = _
      simp only [Act.put, qa, qb, qc, i64_w, i32_w]
      rfl
     refine pu 33 92 #[o,o,o,o,o,o,o,o,o,o,o,o,o,o,o,o,o,o,o,o,o,o,o,o,o,o,o,o,o,o,o,o,o,o,z] HT_ ?_
     refine pu 34 93 #[o,o,o,o,o,o,o,o,o,o,o,o,o,o,o,o,o,o,o,o,o,o,o,o,o,o,o,o,o,o,o,o,o,o,o] HT_ ?_
     refine done_ (done_of HT_.out (by kernel_rfl)) ?_
     try go_wp2
     go_meet
     case rel => exact ⟨_, ((t517 != t518)), (by first | rfl | (simp; done) | (simp [*]; done)), H', ⟨by first | omega | exact Nat.le_refl _⟩, ⟨bB BK509.out⟩, ⟨sB HB.out⟩⟩
   case rest =>
    clear HC9
    try clear c1
    try clear c2
    try clear p2
    try clear c7
    try clear c8
    try clear c19
    try clear c21
    obtain ⟨kq, x93_8, rfl, HA, HJ8, BK509, HB⟩ := hcut
    cases kq with
    | zero => exact absurd HA.out (by simp [laws_FnNarrowed.j0])
    | succ kj8 =>
     have H := HA.out
     clear HA
     simp only [laws_FnNarrowed.j0] at H
     by_cases c41 : x93_8 = true
     ·subst c41
      replace H := hT H
      exact absurd ((Option.some.inj H).trans HRT.out) (by decide)
     ·replace c41 := bF c41
      subst c41
      replace H := hF H
      replace H := bO H
      obtain ⟨⟨t519, t520, t521, t522, t523, t524, t525, t526, t527⟩, A42, H⟩ := H
      try dsimp only at H
      replace H := bO H
      obtain ⟨⟨t530, t531, t532, t533, t534, t535, t536, t537⟩, A43, H⟩ := H
      try dsimp only at H
      have HC44 := am H
      clear H
      go_upto_region 11 with (first | ((with_reducible refine gate_callee (f := 11) rfl ?_); refine gL (some 96) Try.func11 #[.slice A0 l0.length c0] ?_; (with_reducible refine (spec_DrawNarrowGrant.calls kj8 _ _ l0 t519 t520 t521 t522 t523 t524 t525 t526 t527 _ ?side1 ?side2 A42.out).mono ?_); (case side1 => exact cB ((Kd.C_below HR0.out HB.out))); (case side2 => exact HC0.out); rintro e w45 ⟨rfl, hb⟩; refine ⟨_, rfl, ?_⟩; replace BK509 := am (Kb (bB BK509.out) hb); replace HB := am (Kh (sB HB.out) hb); (try clear hb)) | ((with_reducible refine gate_dst (N := 11) rfl ?_); (try (refine gate_guard (by rfl) ?_; dsimp only)); refine bE 11 #[.int .i64 0, .int .i64 0, .int .i64 0, .int .i64 0, .int .i64 0, .int .i64 0, .bool false] 35 ?_; intro gb528 hg w46 hbox hb; have n0_ := am (Kb (bB BK509.out) hb); have q_ := hbx_ (sB HB.out) hg hb; have n1_ := q_.1; have n2_ := am (hbox); have n3_ := q_.2; have n4_ := n3_; have n5_ := nL hg (bB BK509.out); have n6_ := nR hg (bB BK509.out); clear BK509; clear HB; have BK509 := n0_; have HB := n1_; have BK528 := n2_; have GW528 := n3_; have GE528 := n4_; have NB509_528 := n5_; have NB528_509 := n6_; clear n0_ n1_ n2_ n3_ n4_ n5_ n6_; clear hb hbox hg) | ((with_reducible refine gate_dst (N := 12) rfl ?_); (try (refine gate_guard (by rfl) ?_; dsimp only)); refine bE 12 #[.int .i64 0, .int .i64 0] 33 ?_; intro gb529 hg w47 hbox hb; have n0_ := am (Kb (bB BK509.out) hb); have n1_ := am (Kb (bB BK528.out) hb); have q_ := hbx_ (sB HB.out) hg hb; have n2_ := q_.1; have n3_ := am (hbox); have n4_ := q_.2; have n5_ := n4_; have n6_ := nL hg (bB BK509.out); have n7_ := nR hg (bB BK509.out); have n8_ := nL hg (bB BK528.out); have n9_ := nR hg (bB BK528.out); clear BK509; clear BK528; clear HB; have BK509 := n0_; have BK528 := n1_; have HB := n2_; have BK529 := n3_; have GW529 := n4_; have GE529 := n5_; have NB509_529 := n6_; have NB529_509 := n7_; have NB528_529 := n8_; have NB529_528 := n9_; clear n0_ n1_ n2_ n3_ n4_ n5_ n6_ n7_ n8_ n9_; clear hb hbox hg; have hnb48 := NB528_509.out; have hnc48 := NB509_528.out; have hnb49 := NB528_529.out; have hnc49 := NB529_528.out; obtain ⟨hcz50_0, hcz50_1, hcz50_2, hcz50_3, hcz50_4, hcz50_5, hcz50_6, hfz50_0, hfz50_1, hfz50_2, hfz50_3, hfz50_4, hfz50_5, hfz50_6⟩ := blk7 BK528.out; have hnb51 := NB529_509.out; have hnc51 := NB509_529.out; obtain ⟨hcz52_0, hcz52_1, hfz52_0, hfz52_1⟩ := blk2 BK529.out) | ((with_reducible refine gate_callee (f := 12) rfl ?_); refine gL (some 102) Try.func12 #[.agg #[.int .i64 t519, .int .i64 t520, .int .i64 t521, .int .i64 t522, .int .i64 t523, .int .i64 t524, .bool t525], .agg #[.int .i64 t526, .int .i64 t527]] ?_; (with_reducible refine (impl_NarrowGrant.calls kj8 t519 t520 t521 t522 t523 t524 t525 t526 t527 t530 t531 t532 t533 t534 t535 t536 t537 _ A43.out).mono ?_); rintro e w53 ⟨rfl, hb⟩; refine ⟨_, rfl, ?_⟩; replace BK509 := am (Kb (fC NB509_529.out NB509_528.out BK509.out) hb); replace BK528 := am (Kb (g := gb528) (o := .cells #[.int .i64 t519, .int .i64 t520, .int .i64 t521, .int .i64 t522, .int .i64 t523, .int .i64 t524, .bool t525] 35 (0, 0)) (by refine bB ?_; refine blk_far ?_ NB528_529.out _; refine bB ?_; refine blk_far ?_ NB528_529.out _; refine bB ?_; refine Kg (cs := #[.int .i64 t519, .int .i64 t520, .int .i64 t521, .int .i64 t522, .int .i64 t523, .int .i64 t524, .bool false]) ?_ 6 _ rfl; refine bB ?_; refine Kg (cs := #[.int .i64 t519, .int .i64 t520, .int .i64 t521, .int .i64 t522, .int .i64 t523, .int .i64 0, .bool false]) ?_ 5 _ rfl; refine bB ?_; refine Kg (cs := #[.int .i64 t519, .int .i64 t520, .int .i64 t521, .int .i64 t522, .int .i64 0, .int .i64 0, .bool false]) ?_ 4 _ rfl; refine bB ?_; refine Kg (cs := #[.int .i64 t519, .int .i64 t520, .int .i64 t521, .int .i64 0, .int .i64 0, .int .i64 0, .bool false]) ?_ 3 _ rfl; refine bB ?_; refine Kg (cs := #[.int .i64 t519, .int .i64 t520, .int .i64 0, .int .i64 0, .int .i64 0, .int .i64 0, .bool false]) ?_ 2 _ rfl; refine bB ?_; refine Kg (cs := #[.int .i64 t519, .int .i64 0, .int .i64 0, .int .i64 0, .int .i64 0, .int .i64 0, .bool false]) ?_ 1 _ rfl; refine bB ?_; refine Kg (cs := #[.int .i64 0, .int .i64 0, .int .i64 0, .int .i64 0, .int .i64 0, .int .i64 0, .bool false]) ?_ 0 _ rfl; refine bB ?_; exact BK528.out) hb); replace BK529 := am (Kb (g := gb529) (o := .cells #[.int .i64 t526, .int .i64 t527] 33 (0, 0)) (by refine bB ?_; refine Kg (cs := #[.int .i64 t526, .int .i64 0]) ?_ 1 _ rfl; refine bB ?_; refine Kg (cs := #[.int .i64 0, .int .i64 0]) ?_ 0 _ rfl; refine bB ?_; refine blk_far ?_ NB529_528.out _; refine bB ?_; refine blk_far ?_ NB529_528.out _; refine bB ?_; refine blk_far ?_ NB529_528.out _; refine bB ?_; refine blk_far ?_ NB529_528.out _; refine bB ?_; refine blk_far ?_ NB529_528.out _; refine bB ?_; refine blk_far ?_ NB529_528.out _; refine bB ?_; refine blk_far ?_ NB529_528.out _; refine bB ?_; exact BK529.out) hb); replace HB := am (Kh (sB HB.out) hb); (try clear hb)) | ((with_reducible refine gate_dst (N := 13) rfl ?_); (try (refine gate_guard (by rfl) ?_; dsimp only)); refine bE 13 #[.int .i64 0, .int .i64 0, .int .i64 0, .int .i64 0, .int .i64 0, .int .i64 0, .bool false] 35 ?_; intro gb538 hg w54 hbox hb; have n0_ := am (Kb (bB BK509.out) hb); have n1_ := am (Kb (bB BK528.out) hb); have n2_ := am (Kb (bB BK529.out) hb); have q_ := hbx_ (sB HB.out) hg hb; have n3_ := q_.1; have n4_ := am (hbox); have n5_ := q_.2; have n6_ := n5_; have n7_ := nL hg (bB BK509.out); have n8_ := nR hg (bB BK509.out); have n9_ := nL hg (bB BK528.out); have n10_ := nR hg (bB BK528.out); have n11_ := nL hg (bB BK529.out); have n12_ := nR hg (bB BK529.out); clear BK509; clear BK528; clear BK529; clear HB; have BK509 := n0_; have BK528 := n1_; have BK529 := n2_; have HB := n3_; have BK538 := n4_; have GW538 := n5_; have GE538 := n6_; have NB509_538 := n7_; have NB538_509 := n8_; have NB528_538 := n9_; have NB538_528 := n10_; have NB529_538 := n11_; have NB538_529 := n12_; clear n0_ n1_ n2_ n3_ n4_ n5_ n6_ n7_ n8_ n9_ n10_ n11_ n12_; clear hb hbox hg; have hnb55 := NB538_509.out; have hnc55 := NB509_538.out; have hnb56 := NB538_528.out; have hnc56 := NB528_538.out; have hnb57 := NB538_529.out; have hnc57 := NB529_538.out; obtain ⟨hcz58_0, hcz58_1, hcz58_2, hcz58_3, hcz58_4, hcz58_5, hcz58_6, hfz58_0, hfz58_1, hfz58_2, hfz58_3, hfz58_4, hfz58_5, hfz58_6⟩ := blk7 BK538.out))
      (try simp only [Act.put, List.setIfInBounds_toArray, List.set_cons_zero, List.set_cons_succ])
      go_cut [135] (fun v135 wc => ∃ (kq : Nat) (x135_43 : Bool), v135 = .bool x135_43 ∧ Aside0 (laws_FnNarrowed.j1 kq l0 t503 t508 x135_43 t504 t505 = some r) ∧ Aside0 (kq ≤ kj8) ∧ Aside0 (wc.heap[gb509]? = some (.cells #[.int .i64 t504, .int .i64 t505] 27 (0, 0))) ∧ Aside0 (wc.heap[gb528]? = some (.cells #[.int .i64 t519, .int .i64 t520, .int .i64 t521, .int .i64 t522, .int .i64 t523, .int .i64 t524, .bool t525] 35 (0, 0))) ∧ Aside0 (wc.heap[gb529]? = some (.cells #[.int .i64 t526, .int .i64 t527] 33 (0, 0))) ∧ Aside0 (wc.heap[gb538]? = some (.cells #[.int .i64 t530, .int .i64 t531, .int .i64 t532, .int .i64 t533, .int .i64 t534, .int .i64 t535, .bool t536] 35 (0, 0))) ∧ Aside0 (Below w.heap.size w wc))
      case first =>
       exact wpUnlit (f := Try.f3) rfl (laws_FnNarrowed.arm HJ8 HC44 BK509 BK528 BK529 BK538 HB GE538 NB509_538 NB528_538 NB529_538 (by assumption) (by assumption))
      case rest =>
       clear HC44
       try clear p2
       try clear c5
       try clear c59
       obtain ⟨kq, x135_43, rfl, HA, HJ43, BK509, BK528, BK529, BK538, HB⟩ := hcut
       cases kq with
       | zero => exact absurd HA.out (by simp [laws_FnNarrowed.j1])
       | succ kj43 =>
        have H := HA.out
        clear HA
        simp only [laws_FnNarrowed.j1] at H
        by_cases c103 : x135_43 = true
        ·subst c103
         replace H := hT H
         exact absurd ((Option.some.inj H).trans HRT.out) (by decide)
        ·replace c103 := bF c103
         subst c103
         replace H := hF H
         replace H := bO H
         obtain ⟨⟨t549, t550, t551, t552, t553, t554, t555, t556, t557⟩, A104, H⟩ := H
         try dsimp only at H
         replace H := bO H
         obtain ⟨⟨t559, t560, t561, t562, t563, t564, t565, t566⟩, A105, H⟩ := H
         try dsimp only at H
         have HC106 := am H
         clear H
         go_upto_region 15 with (first | ((with_reducible refine gate_callee (f := 16) rfl ?_); refine gL (some 138) Try.func16 #[.slice A0 l0.length c0] ?_; (with_reducible refine (spec_DrawNarrowTime.calls kj43 _ _ l0 t549 t550 t551 t552 t553 t554 t555 t556 t557 _ ?side1 ?side2 A104.out).mono ?_); (case side1 => exact cB ((Kd.C_below HR0.out HB.out))); (case side2 => exact HC0.out); rintro e w107 ⟨rfl, hb⟩; refine ⟨_, rfl, ?_⟩; replace BK509 := am (Kb (bB BK509.out) hb); replace BK528 := am (Kb (bB BK528.out) hb); replace BK529 := am (Kb (bB BK529.out) hb); replace BK538 := am (Kb (bB BK538.out) hb); replace HB := am (Kh (sB HB.out) hb); (try clear hb)) | ((with_reducible refine gate_dst (N := 15) rfl ?_); (try (refine gate_guard (by rfl) ?_; dsimp only)); refine bE 15 #[.int .i64 0, .int .i64 0, .int .i64 0, .int .i64 0, .int .i64 0, .int .i64 0, .bool false] 35 ?_; intro gb558 hg w108 hbox hb; have n0_ := am (Kb (bB BK509.out) hb); have n1_ := am (Kb (bB BK528.out) hb); have n2_ := am (Kb (bB BK529.out) hb); have n3_ := am (Kb (bB BK538.out) hb); have q_ := hbx_ (sB HB.out) hg hb; have n4_ := q_.1; have n5_ := am (hbox); have n6_ := q_.2; have n7_ := n6_; have n8_ := nL hg (bB BK509.out); have n9_ := nR hg (bB BK509.out); have n10_ := nL hg (bB BK528.out); have n11_ := nR hg (bB BK528.out); have n12_ := nL hg (bB BK529.out); have n13_ := nR hg (bB BK529.out); have n14_ := nL hg (bB BK538.out); have n15_ := nR hg (bB BK538.out); clear BK509; clear BK528; clear BK529; clear BK538; clear HB; have BK509 := n0_; have BK528 := n1_; have BK529 := n2_; have BK538 := n3_; have HB := n4_; have BK558 := n5_; have GW558 := n6_; have GE558 := n7_; have NB509_558 := n8_; have NB558_509 := n9_; have NB528_558 := n10_; have NB558_528 := n11_; have NB529_558 := n12_; have NB558_529 := n13_; have NB538_558 := n14_; have NB558_538 := n15_; clear n0_ n1_ n2_ n3_ n4_ n5_ n6_ n7_ n8_ n9_ n10_ n11_ n12_ n13_ n14_ n15_; clear hb hbox hg; have hnb109 := NB558_509.out; have hnc109 := NB509_558.out; have hnb110 := NB558_528.out; have hnc110 := NB528_558.out; have hnb111 := NB558_529.out; have hnc111 := NB529_558.out; have hnb112 := NB558_538.out; have hnc112 := NB538_558.out; obtain ⟨hcz113_0, hcz113_1, hcz113_2, hcz113_3, hcz113_4, hcz113_5, hcz113_6, hfz113_0, hfz113_1, hfz113_2, hfz113_3, hfz113_4, hfz113_5, hfz113_6⟩ := blk7 BK558.out) | ((with_reducible refine gate_callee (f := 17) rfl ?_); refine gL (some 146) Try.func17 #[.agg #[.int .i64 t549, .int .i64 t550, .int .i64 t551, .int .i64 t552, .int .i64 t553, .int .i64 t554, .bool t555], .int .i64 t556, .int .i64 t557] ?_; (with_reducible refine (impl_NarrowTime.calls t549 t550 t551 t552 t553 t554 t555 t556 t557 t559 t560 t561 t562 t563 t564 t565 t566 _ A105.out).mono ?_); rintro e w114 ⟨rfl, hb⟩; refine ⟨_, rfl, ?_⟩; replace BK509 := am (Kb (fB NB509_558.out BK509.out) hb); replace BK528 := am (Kb (fB NB528_558.out BK528.out) hb); replace BK529 := am (Kb (fB NB529_558.out BK529.out) hb); replace BK538 := am (Kb (fB NB538_558.out BK538.out) hb); replace BK558 := am (Kb (g := gb558) (o := .cells #[.int .i64 t549, .int .i64 t550, .int .i64 t551, .int .i64 t552, .int .i64 t553, .int .i64 t554, .bool t555] 35 (0, 0)) (by refine bB ?_; refine Kg (cs := #[.int .i64 t549, .int .i64 t550, .int .i64 t551, .int .i64 t552, .int .i64 t553, .int .i64 t554, .bool false]) ?_ 6 _ rfl; refine bB ?_; refine Kg (cs := #[.int .i64 t549, .int .i64 t550, .int .i64 t551, .int .i64 t552, .int .i64 t553, .int .i64 0, .bool false]) ?_ 5 _ rfl; refine bB ?_; refine Kg (cs := #[.int .i64 t549, .int .i64 t550, .int .i64 t551, .int .i64 t552, .int .i64 0, .int .i64 0, .bool false]) ?_ 4 _ rfl; refine bB ?_; refine Kg (cs := #[.int .i64 t549, .int .i64 t550, .int .i64 t551, .int .i64 0, .int .i64 0, .int .i64 0, .bool false]) ?_ 3 _ rfl; refine bB ?_; refine Kg (cs := #[.int .i64 t549, .int .i64 t550, .int .i64 0, .int .i64 0, .int .i64 0, .int .i64 0, .bool false]) ?_ 2 _ rfl; refine bB ?_; refine Kg (cs := #[.int .i64 t549, .int .i64 0, .int .i64 0, .int .i64 0, .int .i64 0, .int .i64 0, .bool false]) ?_ 1 _ rfl; refine bB ?_; refine Kg (cs := #[.int .i64 0, .int .i64 0, .int .i64 0, .int .i64 0, .int .i64 0, .int .i64 0, .bool false]) ?_ 0 _ rfl; refine bB ?_; exact BK558.out) hb); replace HB := am (Kh (sB HB.out) hb); (try clear hb)) | ((with_reducible refine gate_dst (N := 18) rfl ?_); (try (refine gate_guard (by rfl) ?_; dsimp only)); refine bE 18 #[.int .i64 0, .int .i64 0, .int .i64 0, .int .i64 0, .int .i64 0, .int .i64 0, .bool false] 35 ?_; intro gb567 hg w115 hbox hb; have n0_ := am (Kb (bB BK509.out) hb); have n1_ := am (Kb (bB BK528.out) hb); have n2_ := am (Kb (bB BK529.out) hb); have n3_ := am (Kb (bB BK538.out) hb); have n4_ := am (Kb (bB BK558.out) hb); have q_ := hbx_ (sB HB.out) hg hb; have n5_ := q_.1; have n6_ := am (hbox); have n7_ := q_.2; have n8_ := n7_; have n9_ := nL hg (bB BK509.out); have n10_ := nR hg (bB BK509.out); have n11_ := nL hg (bB BK528.out); have n12_ := nR hg (bB BK528.out); have n13_ := nL hg (bB BK529.out); have n14_ := nR hg (bB BK529.out); have n15_ := nL hg (bB BK538.out); have n16_ := nR hg (bB BK538.out); have n17_ := nL hg (bB BK558.out); have n18_ := nR hg (bB BK558.out); clear BK509; clear BK528; clear BK529; clear BK538; clear BK558; clear HB; have BK509 := n0_; have BK528 := n1_; have BK529 := n2_; have BK538 := n3_; have BK558 := n4_; have HB := n5_; have BK567 := n6_; have GW567 := n7_; have GE567 := n8_; have NB509_567 := n9_; have NB567_509 := n10_; have NB528_567 := n11_; have NB567_528 := n12_; have NB529_567 := n13_; have NB567_529 := n14_; have NB538_567 := n15_; have NB567_538 := n16_; have NB558_567 := n17_; have NB567_558 := n18_; clear n0_ n1_ n2_ n3_ n4_ n5_ n6_ n7_ n8_ n9_ n10_ n11_ n12_ n13_ n14_ n15_ n16_ n17_ n18_; clear hb hbox hg; have hnb116 := NB567_509.out; have hnc116 := NB509_567.out; have hnb117 := NB567_528.out; have hnc117 := NB528_567.out; have hnb118 := NB567_529.out; have hnc118 := NB529_567.out; have hnb119 := NB567_538.out; have hnc119 := NB538_567.out; have hnb120 := NB567_558.out; have hnc120 := NB558_567.out; obtain ⟨hcz121_0, hcz121_1, hcz121_2, hcz121_3, hcz121_4, hcz121_5, hcz121_6, hfz121_0, hfz121_1, hfz121_2, hfz121_3, hfz121_4, hfz121_5, hfz121_6⟩ := blk7 BK567.out))
         (try simp only [Act.put, List.setIfInBounds_toArray, List.set_cons_zero, List.set_cons_succ])
         go_cut [169] (fun v169 wc => ∃ (kq : Nat) (x169_105 : Bool), v169 = .bool x169_105 ∧ Aside0 (laws_FnNarrowed.j2 kq l0 t503 t508 x169_105 t504 t505 = some r) ∧ Aside0 (kq ≤ kj43) ∧ Aside0 (wc.heap[gb509]? = some (.cells #[.int .i64 t504, .int .i64 t505] 27 (0, 0))) ∧ Aside0 (wc.heap[gb528]? = some (.cells #[.int .i64 t519, .int .i64 t520, .int .i64 t521, .int .i64 t522, .int .i64 t523, .int .i64 t524, .bool t525] 35 (0, 0))) ∧ Aside0 (wc.heap[gb529]? = some (.cells #[.int .i64 t526, .int .i64 t527] 33 (0, 0))) ∧ Aside0 (wc.heap[gb538]? = some (.cells #[.int .i64 t530, .int .i64 t531, .int .i64 t532, .int .i64 t533, .int .i64 t534, .int .i64 t535, .bool t536] 35 (0, 0))) ∧ Aside0 (wc.heap[gb558]? = some (.cells #[.int .i64 t549, .int .i64 t550, .int .i64 t551, .int .i64 t552, .int .i64 t553, .int .i64 t554, .bool t555] 35 (0, 0))) ∧ Aside0 (wc.heap[gb567]? = some (.cells #[.int .i64 t559, .int .i64 t560, .int .i64 t561, .int .i64 t562, .int .i64 t563, .int .i64 t564, .bool t565] 35 (0, 0))) ∧ Aside0 (Below w.heap.size w wc))
         case first =>
          have H := HC106.out
          clear HC106
          by_cases c122 : t566 = true
          ·subst c122
           replace H := hT H
           obtain ⟨y568, hy568⟩ : ∃ y_ : List (S35), y_ = (([(⟨t559, (⟨t560, t561⟩ : S33), t562, t563, t564, t565⟩ : S35)] : List (S35))) := ⟨_, rfl⟩
           replace H : ((impl_IsWithinGrants.f kj43 y568 (([(⟨t549, (⟨t550, t551⟩ : S33), t552, t553, t554, t555⟩ : S35)] : List (S35)))).bind fun t574 => (if t574 = true then (if t563 < t556 then (laws_FnNarrowed.j2 kj43 l0 t503 t508 true t504 t505) else (laws_FnNarrowed.j2 kj43 l0 t503 t508 (decide (t564 > t557)) t504 t505)) else (laws_FnNarrowed.j2 kj43 l0 t503 t508 true t504 t505))) = some r := by first | (rw [hy568]; with_reducible exact H) | (have H2_ := (Option.bind_some _ _).symm.trans H; rw [hy568]; with_reducible exact H2_) | (have H2_ := (Option.bind_some _ _).symm.trans H; with_reducible exact H2_) | with_reducible exact H | (rw [hy568]; exact H) | exact H
           have Ny568 := am hy568
           clear hy568
           obtain ⟨y571, hy571⟩ : ∃ y_ : List (S35), y_ = (([(⟨t549, (⟨t550, t551⟩ : S33), t552, t553, t554, t555⟩ : S35)] : List (S35))) := ⟨_, rfl⟩
           replace H : ((impl_IsWithinGrants.f kj43 y568 y571).bind fun t574 => (if t574 = true then (if t563 < t556 then (laws_FnNarrowed.j2 kj43 l0 t503 t508 true t504 t505) else (laws_FnNarrowed.j2 kj43 l0 t503 t508 (decide (t564 > t557)) t504 t505)) else (laws_FnNarrowed.j2 kj43 l0 t503 t508 true t504 t505))) = some r := by first | (rw [hy571]; with_reducible exact H) | (have H2_ := (Option.bind_some _ _).symm.trans H; rw [hy571]; with_reducible exact H2_) | (have H2_ := (Option.bind_some _ _).symm.trans H; with_reducible exact H2_) | with_reducible exact H | (rw [hy571]; exact H) | exact H
           have Ny571 := am hy571
           clear hy571
           replace H := bO H
           obtain ⟨t574, A123, H⟩ := H
           by_cases c124 : t574 = true
           ·subst c124
            replace H := hT H
            by_cases c125 : t563 < t556
            ·rw [if_pos c125] at H
             have c125b0 : decide (t563 < t556) = true := decide_eq_true c125
             clear c125
             (first | rw [c125b0] | (simp only [i64_w, i32_w]; rw [c125b0]) | skip)
             have H' := am H
             clear H
             have hnb126 := NB567_509.out
             have hnc126 := NB509_567.out
             have hnb127 := NB567_528.out
             have hnc127 := NB528_567.out
             have hnb128 := NB567_529.out
             have hnc128 := NB529_567.out
             have hnb129 := NB567_538.out
             have hnc129 := NB538_567.out
             have hnb130 := NB567_558.out
             have hnc130 := NB558_567.out
             have hcz131_0 : w115.cell? ⟨gb567, 0, none⟩ = some (.int .i64 0) := (Kk BK567.out 0).trans rfl
             have hcz131_1 : w115.cell? ⟨gb567, 1, none⟩ = some (.int .i64 0) := (Kk BK567.out 1).trans rfl
             have hcz131_2 : w115.cell? ⟨gb567, 2, none⟩ = some (.int .i64 0) := (Kk BK567.out 2).trans rfl
             have hcz131_3 : w115.cell? ⟨gb567, 3, none⟩ = some (.int .i64 0) := (Kk BK567.out 3).trans rfl
             have hcz131_4 : w115.cell? ⟨gb567, 4, none⟩ = some (.int .i64 0) := (Kk BK567.out 4).trans rfl
             have hcz131_5 : w115.cell? ⟨gb567, 5, none⟩ = some (.int .i64 0) := (Kk BK567.out 5).trans rfl
             have hcz131_6 : w115.cell? ⟨gb567, 6, none⟩ = some (.bool false) := (Kk BK567.out 6).trans rfl
             have hfz131_0 := Kr BK567.out 0
             have hfz131_1 := Kr BK567.out 1
             have hfz131_2 := Kr BK567.out 2
             have hfz131_3 := Kr BK567.out 3
             have hfz131_4 := Kr BK567.out 4
             have hfz131_5 := Kr BK567.out 5
             have hfz131_6 := Kr BK567.out 6
             go_wp2_with (first | ((with_reducible refine gate_dst (N := 152) rfl ?_); (try (refine gate_guard (by rfl) ?_; dsimp only)); refine Kd.R_lit k35 _ 35 ?hg (N := 152) ?hd (xs := ([(⟨t559, (⟨t560, t561⟩ : S33), t562, t563, t564, t565⟩ : S35)] : List (S35))) (inner := [.int .i64 t559, .int .i64 t560, .int .i64 t561, .int .i64 t562, .int .i64 t563, .int .i64 t564, .bool t565]) (ok := fun _ => True) (okp := fun _ => True) ?hr ?hp (fun _ hk => hk) trivial (Below.refl _ _) (Nat.le_refl _) (by simp) ?_; (case hd => rfl); (case hg => rfl); (case hr => first | (go_simp; done) | (go_simp; rfl)); (case hp => exact (Reps.c7 (show Kd.M k35 _ _ _ (⟨t559, (⟨t560, t561⟩ : S33), t562, t563, t564, t565⟩ : S35) [.int .i64 t559, .int .i64 t560, .int .i64 t561, .int .i64 t562, .int .i64 t563, .int .i64 t564, .bool t565] from (k35_mkM _ _ _ (⟨t559, (⟨t560, t561⟩ : S33), t562, t563, t564, t565⟩ : S35) )) (Reps.none _ _))); intro v569 w132 ho133 hb hg_ hnew_; clear hg_ hnew_; (first | rw [← Ny568.out] at ho133 | (simp only [Int.reduceToNat] at ho133; rw [← Ny568.out] at ho133)); have n0_ := am (Kd.R_lower (Kd.R_newB (Kd.R_newB (Kd.R_newB (Kd.R_newB ho133 (fB NB528_567.out BK528.out)) (fB NB538_567.out BK538.out)) (fB NB558_567.out BK558.out)) (g := gb567) (o := .cells #[.int .i64 t559, .int .i64 t560, .int .i64 t561, .int .i64 t562, .int .i64 t563, .int .i64 t564, .bool t565] 35 (0, 0)) (by refine bB ?_; refine Kg (cs := #[.int .i64 t559, .int .i64 t560, .int .i64 t561, .int .i64 t562, .int .i64 t563, .int .i64 t564, .bool false]) ?_ 6 _ rfl; refine bB ?_; refine Kg (cs := #[.int .i64 t559, .int .i64 t560, .int .i64 t561, .int .i64 t562, .int .i64 t563, .int .i64 0, .bool false]) ?_ 5 _ rfl; refine bB ?_; refine Kg (cs := #[.int .i64 t559, .int .i64 t560, .int .i64 t561, .int .i64 t562, .int .i64 0, .int .i64 0, .bool false]) ?_ 4 _ rfl; refine bB ?_; refine Kg (cs := #[.int .i64 t559, .int .i64 t560, .int .i64 t561, .int .i64 0, .int .i64 0, .int .i64 0, .bool false]) ?_ 3 _ rfl; refine bB ?_; refine Kg (cs := #[.int .i64 t559, .int .i64 t560, .int .i64 0, .int .i64 0, .int .i64 0, .int .i64 0, .bool false]) ?_ 2 _ rfl; refine bB ?_; refine Kg (cs := #[.int .i64 t559, .int .i64 0, .int .i64 0, .int .i64 0, .int .i64 0, .int .i64 0, .bool false]) ?_ 1 _ rfl; refine bB ?_; refine Kg (cs := #[.int .i64 0, .int .i64 0, .int .i64 0, .int .i64 0, .int .i64 0, .int .i64 0, .bool false]) ?_ 0 _ rfl; refine bB ?_; exact BK567.out)) (below_size (sB HB.out))); have n1_ := am (Kb (fB NB509_567.out BK509.out) hb); have n2_ := am (Kb (fB NB528_567.out BK528.out) hb); have n3_ := am (Kb (fB NB529_567.out BK529.out) hb); have n4_ := am (Kb (fB NB538_567.out BK538.out) hb); have n5_ := am (Kb (fB NB558_567.out BK558.out) hb); have n6_ := am (Kb (g := gb567) (o := .cells #[.int .i64 t559, .int .i64 t560, .int .i64 t561, .int .i64 t562, .int .i64 t563, .int .i64 t564, .bool t565] 35 (0, 0)) (by refine bB ?_; refine Kg (cs := #[.int .i64 t559, .int .i64 t560, .int .i64 t561, .int .i64 t562, .int .i64 t563, .int .i64 t564, .bool false]) ?_ 6 _ rfl; refine bB ?_; refine Kg (cs := #[.int .i64 t559, .int .i64 t560, .int .i64 t561, .int .i64 t562, .int .i64 t563, .int .i64 0, .bool false]) ?_ 5 _ rfl; refine bB ?_; refine Kg (cs := #[.int .i64 t559, .int .i64 t560, .int .i64 t561, .int .i64 t562, .int .i64 0, .int .i64 0, .bool false]) ?_ 4 _ rfl; refine bB ?_; refine Kg (cs := #[.int .i64 t559, .int .i64 t560, .int .i64 t561, .int .i64 0, .int .i64 0, .int .i64 0, .bool false]) ?_ 3 _ rfl; refine bB ?_; refine Kg (cs := #[.int .i64 t559, .int .i64 t560, .int .i64 0, .int .i64 0, .int .i64 0, .int .i64 0, .bool false]) ?_ 2 _ rfl; refine bB ?_; refine Kg (cs := #[.int .i64 t559, .int .i64 0, .int .i64 0, .int .i64 0, .int .i64 0, .int .i64 0, .bool false]) ?_ 1 _ rfl; refine bB ?_; refine Kg (cs := #[.int .i64 0, .int .i64 0, .int .i64 0, .int .i64 0, .int .i64 0, .int .i64 0, .bool false]) ?_ 0 _ rfl; refine bB ?_; exact BK567.out) hb); have n7_ := am (Kh (sB HB.out) hb); clear BK509; clear BK528; clear BK529; clear BK538; clear BK558; clear BK567; clear HB; have HO570 := n0_; have BK509 := n1_; have BK528 := n2_; have BK529 := n3_; have BK538 := n4_; have BK558 := n5_; have BK567 := n6_; have HB := n7_; clear n0_ n1_ n2_ n3_ n4_ n5_ n6_ n7_; clear hb ho133; have hnb134 := NB558_509.out; have hnc134 := NB509_558.out; have hnb135 := NB558_528.out; have hnc135 := NB528_558.out; have hnb136 := NB558_529.out; have hnc136 := NB529_558.out; have hnb137 := NB558_538.out; have hnc137 := NB538_558.out; obtain ⟨hcz138_0, hcz138_1, hcz138_2, hcz138_3, hcz138_4, hcz138_5, hcz138_6, hfz138_0, hfz138_1, hfz138_2, hfz138_3, hfz138_4, hfz138_5, hfz138_6⟩ := blk7 BK558.out) | ((with_reducible refine gate_dst (N := 154) rfl ?_); (try (refine gate_guard (by rfl) ?_; dsimp only)); refine Kd.R_lit k35 _ 35 ?hg (N := 154) ?hd (xs := ([(⟨t549, (⟨t550, t551⟩ : S33), t552, t553, t554, t555⟩ : S35)] : List (S35))) (inner := [.int .i64 t549, .int .i64 t550, .int .i64 t551, .int .i64 t552, .int .i64 t553, .int .i64 t554, .bool t555]) (ok := fun _ => True) (okp := fun _ => True) ?hr ?hp (fun _ hk => hk) trivial (Below.refl _ _) (Nat.le_refl _) (by simp) ?_; (case hd => rfl); (case hg => rfl); (case hr => first | (go_simp; done) | (go_simp; rfl)); (case hp => exact (Reps.c7 (show Kd.M k35 _ _ _ (⟨t549, (⟨t550, t551⟩ : S33), t552, t553, t554, t555⟩ : S35) [.int .i64 t549, .int .i64 t550, .int .i64 t551, .int .i64 t552, .int .i64 t553, .int .i64 t554, .bool t555] from (k35_mkM _ _ _ (⟨t549, (⟨t550, t551⟩ : S33), t552, t553, t554, t555⟩ : S35) )) (Reps.none _ _))); intro v572 w139 ho140 hb hg_ hnew_; clear hg_ hnew_; (first | rw [← Ny571.out] at ho140 | (simp only [Int.reduceToNat] at ho140; rw [← Ny571.out] at ho140)); have n0_ := am (Kd.R_elder' (rB HO570.out) (Kd.R_base ho140) hb); have n1_ := am (Kd.R_lower (Kd.R_newB (Kd.R_newB (Kd.R_newB (Kd.R_newB (Kd.R_new' ho140 (Kd.R_lt (rB HO570.out))) (bB BK528.out)) (bB BK538.out)) (bB BK558.out)) (bB BK567.out)) (below_size (sB HB.out))); have n2_ := am (Kb (bB BK509.out) hb); have n3_ := am (Kb (bB BK528.out) hb); have n4_ := am (Kb (bB BK529.out) hb); have n5_ := am (Kb (bB BK538.out) hb); have n6_ := am (Kb (bB BK558.out) hb); have n7_ := am (Kb (bB BK567.out) hb); have n8_ := am (Kh (sB HB.out) hb); clear HO570; clear BK509; clear BK528; clear BK529; clear BK538; clear BK558; clear BK567; clear HB; have HO570 := n0_; have HO573 := n1_; have BK509 := n2_; have BK528 := n3_; have BK529 := n4_; have BK538 := n5_; have BK558 := n6_; have BK567 := n7_; have HB := n8_; clear n0_ n1_ n2_ n3_ n4_ n5_ n6_ n7_ n8_; clear hb ho140; obtain ⟨Ao141, co141, eo141⟩ := Kd.R_slice HO570.out; subst eo141; obtain ⟨Ao142, co142, eo142⟩ := Kd.R_slice HO573.out; subst eo142) | (go_at_call 13; (with_reducible refine (impl_IsWithinGrants.calls kj43 _ _ y568 _ _ y571 true _ ?side1 ?side2 ?side3 ?side4 A123.out).mono ?_); (case side1 => exact cB ((Kq HO570.out).2.2)); (case side2 => exact (Kq HO570.out).2.1); (case side3 => exact cB ((Kq HO573.out).2.2)); (case side4 => exact (Kq HO573.out).2.1); rintro e w143 ⟨rfl, hb⟩; replace HO570 := am (Ko (rB HO570.out) hb); replace HO573 := am (Ko (rB HO573.out) hb); replace BK509 := am (Kb (bB BK509.out) hb); replace BK528 := am (Kb (bB BK528.out) hb); replace BK529 := am (Kb (bB BK529.out) hb); replace BK538 := am (Kb (bB BK538.out) hb); replace BK558 := am (Kb (bB BK558.out) hb); replace BK567 := am (Kb (bB BK567.out) hb); replace HB := am (Kh (sB HB.out) hb); (try clear hb); obtain ⟨hcz144_0, hcz144_1, hcz144_2, hcz144_3, hcz144_4, hcz144_5, hcz144_6, hfz144_0, hfz144_1, hfz144_2, hfz144_3, hfz144_4, hfz144_5, hfz144_6⟩ := blk7 BK567.out))
             go_meet
             case rel => exact ⟨_, (true), (by first | rfl | (simp; done) | (simp [*]; done)), H', ⟨by have := HJ8.out; have := HJ43.out; first | omega | exact Nat.le_refl _⟩, ⟨bB BK509.out⟩, ⟨bB BK528.out⟩, ⟨bB BK529.out⟩, ⟨bB BK538.out⟩, ⟨bB BK558.out⟩, ⟨bB BK567.out⟩, ⟨sB HB.out⟩⟩
            ·rw [if_neg c125] at H
             have c125b0 : decide (t563 < t556) = false := decide_eq_false c125
             clear c125
             (first | rw [c125b0] | (simp only [i64_w, i32_w]; rw [c125b0]) | skip)
             have H' := am H
             clear H
             have hnb145 := NB567_509.out
             have hnc145 := NB509_567.out
             have hnb146 := NB567_528.out
             have hnc146 := NB528_567.out
             have hnb147 := NB567_529.out
             have hnc147 := NB529_567.out
             have hnb148 := NB567_538.out
             have hnc148 := NB538_567.out
             have hnb149 := NB567_558.out
             have hnc149 := NB558_567.out
             have hcz150_0 : w115.cell? ⟨gb567, 0, none⟩ = some (.int .i64 0) := (Kk BK567.out 0).trans rfl
             have hcz150_1 : w115.cell? ⟨gb567, 1, none⟩ = some (.int .i64 0) := (Kk BK567.out 1).trans rfl
             have hcz150_2 : w115.cell? ⟨gb567, 2, none⟩ = some (.int .i64 0) := (Kk BK567.out 2).trans rfl
             have hcz150_3 : w115.cell? ⟨gb567, 3, none⟩ = some (.int .i64 0) := (Kk BK567.out 3).trans rfl
             have hcz150_4 : w115.cell? ⟨gb567, 4, none⟩ = some (.int .i64 0) := (Kk BK567.out 4).trans rfl
             have hcz150_5 : w115.cell? ⟨gb567, 5, none⟩ = some (.int .i64 0) := (Kk BK567.out 5).trans rfl
             have hcz150_6 : w115.cell? ⟨gb567, 6, none⟩ = some (.bool false) := (Kk BK567.out 6).trans rfl
             have hfz150_0 := Kr BK567.out 0
             have hfz150_1 := Kr BK567.out 1
             have hfz150_2 := Kr BK567.out 2
             have hfz150_3 := Kr BK567.out 3
             have hfz150_4 := Kr BK567.out 4
             have hfz150_5 := Kr BK567.out 5
             have hfz150_6 := Kr BK567.out 6
             go_wp2_with (first | ((with_reducible refine gate_dst (N := 152) rfl ?_); (try (refine gate_guard (by rfl) ?_; dsimp only)); refine Kd.R_lit k35 _ 35 ?hg (N := 152) ?hd (xs := ([(⟨t559, (⟨t560, t561⟩ : S33), t562, t563, t564, t565⟩ : S35)] : List (S35))) (inner := [.int .i64 t559, .int .i64 t560, .int .i64 t561, .int .i64 t562, .int .i64 t563, .int .i64 t564, .bool t565]) (ok := fun _ => True) (okp := fun _ => True) ?hr ?hp (fun _ hk => hk) trivial (Below.refl _ _) (Nat.le_refl _) (by simp) ?_; (case hd => rfl); (case hg => rfl); (case hr => first | (go_simp; done) | (go_simp; rfl)); (case hp => exact (Reps.c7 (show Kd.M k35 _ _ _ (⟨t559, (⟨t560, t561⟩ : S33), t562, t563, t564, t565⟩ : S35) [.int .i64 t559, .int .i64 t560, .int .i64 t561, .int .i64 t562, .int .i64 t563, .int .i64 t564, .bool t565] from (k35_mkM _ _ _ (⟨t559, (⟨t560, t561⟩ : S33), t562, t563, t564, t565⟩ : S35) )) (Reps.none _ _))); intro v569 w151 ho152 hb hg_ hnew_; clear hg_ hnew_; (first | rw [← Ny568.out] at ho152 | (simp only [Int.reduceToNat] at ho152; rw [← Ny568.out] at ho152)); have n0_ := am (Kd.R_lower (Kd.R_newB (Kd.R_newB (Kd.R_newB (Kd.R_newB ho152 (fB NB528_567.out BK528.out)) (fB NB538_567.out BK538.out)) (fB NB558_567.out BK558.out)) (g := gb567) (o := .cells #[.int .i64 t559, .int .i64 t560, .int .i64 t561, .int .i64 t562, .int .i64 t563, .int .i64 t564, .bool t565] 35 (0, 0)) (by refine bB ?_; refine Kg (cs := #[.int .i64 t559, .int .i64 t560, .int .i64 t561, .int .i64 t562, .int .i64 t563, .int .i64 t564, .bool false]) ?_ 6 _ rfl; refine bB ?_; refine Kg (cs := #[.int .i64 t559, .int .i64 t560, .int .i64 t561, .int .i64 t562, .int .i64 t563, .int .i64 0, .bool false]) ?_ 5 _ rfl; refine bB ?_; refine Kg (cs := #[.int .i64 t559, .int .i64 t560, .int .i64 t561, .int .i64 t562, .int .i64 0, .int .i64 0, .bool false]) ?_ 4 _ rfl; refine bB ?_; refine Kg (cs := #[.int .i64 t559, .int .i64 t560, .int .i64 t561, .int .i64 0, .int .i64 0, .int .i64 0, .bool false]) ?_ 3 _ rfl; refine bB ?_; refine Kg (cs := #[.int .i64 t559, .int .i64 t560, .int .i64 0, .int .i64 0, .int .i64 0, .int .i64 0, .bool false]) ?_ 2 _ rfl; refine bB ?_; refine Kg (cs := #[.int .i64 t559, .int .i64 0, .int .i64 0, .int .i64 0, .int .i64 0, .int .i64 0, .bool false]) ?_ 1 _ rfl; refine bB ?_; refine Kg (cs := #[.int .i64 0, .int .i64 0, .int .i64 0, .int .i64 0, .int .i64 0, .int .i64 0, .bool false]) ?_ 0 _ rfl; refine bB ?_; exact BK567.out)) (below_size (sB HB.out))); have n1_ := am (Kb (fB NB509_567.out BK509.out) hb); have n2_ := am (Kb (fB NB528_567.out BK528.out) hb); have n3_ := am (Kb (fB NB529_567.out BK529.out) hb); have n4_ := am (Kb (fB NB538_567.out BK538.out) hb); have n5_ := am (Kb (fB NB558_567.out BK558.out) hb); have n6_ := am (Kb (g := gb567) (o := .cells #[.int .i64 t559, .int .i64 t560, .int .i64 t561, .int .i64 t562, .int .i64 t563, .int .i64 t564, .bool t565] 35 (0, 0)) (by refine bB ?_; refine Kg (cs := #[.int .i64 t559, .int .i64 t560, .int .i64 t561, .int .i64 t562, .int .i64 t563, .int .i64 t564, .bool false]) ?_ 6 _ rfl; refine bB ?_; refine Kg (cs := #[.int .i64 t559, .int .i64 t560, .int .i64 t561, .int .i64 t562, .int .i64 t563, .int .i64 0, .bool false]) ?_ 5 _ rfl; refine bB ?_; refine Kg (cs := #[.int .i64 t559, .int .i64 t560, .int .i64 t561, .int .i64 t562, .int .i64 0, .int .i64 0, .bool false]) ?_ 4 _ rfl; refine bB ?_; refine Kg (cs := #[.int .i64 t559, .int .i64 t560, .int .i64 t561, .int .i64 0, .int .i64 0, .int .i64 0, .bool false]) ?_ 3 _ rfl; refine bB ?_; refine Kg (cs := #[.int .i64 t559, .int .i64 t560, .int .i64 0, .int .i64 0, .int .i64 0, .int .i64 0, .bool false]) ?_ 2 _ rfl; refine bB ?_; refine Kg (cs := #[.int .i64 t559, .int .i64 0, .int .i64 0, .int .i64 0, .int .i64 0, .int .i64 0, .bool false]) ?_ 1 _ rfl; refine bB ?_; refine Kg (cs := #[.int .i64 0, .int .i64 0, .int .i64 0, .int .i64 0, .int .i64 0, .int .i64 0, .bool false]) ?_ 0 _ rfl; refine bB ?_; exact BK567.out) hb); have n7_ := am (Kh (sB HB.out) hb); clear BK509; clear BK528; clear BK529; clear BK538; clear BK558; clear BK567; clear HB; have HO570 := n0_; have BK509 := n1_; have BK528 := n2_; have BK529 := n3_; have BK538 := n4_; have BK558 := n5_; have BK567 := n6_; have HB := n7_; clear n0_ n1_ n2_ n3_ n4_ n5_ n6_ n7_; clear hb ho152; have hnb153 := NB558_509.out; have hnc153 := NB509_558.out; have hnb154 := NB558_528.out; have hnc154 := NB528_558.out; have hnb155 := NB558_529.out; have hnc155 := NB529_558.out; have hnb156 := NB558_538.out; have hnc156 := NB538_558.out; obtain ⟨hcz157_0, hcz157_1, hcz157_2, hcz157_3, hcz157_4, hcz157_5, hcz157_6, hfz157_0, hfz157_1, hfz157_2, hfz157_3, hfz157_4, hfz157_5, hfz157_6⟩ := blk7 BK558.out) | ((with_reducible refine gate_dst (N := 154) rfl ?_); (try (refine gate_guard (by rfl) ?_; dsimp only)); refine Kd.R_lit k35 _ 35 ?hg (N := 154) ?hd (xs := ([(⟨t549, (⟨t550, t551⟩ : S33), t552, t553, t554, t555⟩ : S35)] : List (S35))) (inner := [.int .i64 t549, .int .i64 t550, .int .i64 t551, .int .i64 t552, .int .i64 t553, .int .i64 t554, .bool t555]) (ok := fun _ => True) (okp := fun _ => True) ?hr ?hp (fun _ hk => hk) trivial (Below.refl _ _) (Nat.le_refl _) (by simp) ?_; (case hd => rfl); (case hg => rfl); (case hr => first | (go_simp; done) | (go_simp; rfl)); (case hp => exact (Reps.c7 (show Kd.M k35 _ _ _ (⟨t549, (⟨t550, t551⟩ : S33), t552, t553, t554, t555⟩ : S35) [.int .i64 t549, .int .i64 t550, .int .i64 t551, .int .i64 t552, .int .i64 t553, .int .i64 t554, .bool t555] from (k35_mkM _ _ _ (⟨t549, (⟨t550, t551⟩ : S33), t552, t553, t554, t555⟩ : S35) )) (Reps.none _ _))); intro v572 w158 ho159 hb hg_ hnew_; clear hg_ hnew_; (first | rw [← Ny571.out] at ho159 | (simp only [Int.reduceToNat] at ho159; rw [← Ny571.out] at ho159)); have n0_ := am (Kd.R_elder' (rB HO570.out) (Kd.R_base ho159) hb); have n1_ := am (Kd.R_lower (Kd.R_newB (Kd.R_newB (Kd.R_newB (Kd.R_newB (Kd.R_new' ho159 (Kd.R_lt (rB HO570.out))) (bB BK528.out)) (bB BK538.out)) (bB BK558.out)) (bB BK567.out)) (below_size (sB HB.out))); have n2_ := am (Kb (bB BK509.out) hb); have n3_ := am (Kb (bB BK528.out) hb); have n4_ := am (Kb (bB BK529.out) hb); have n5_ := am (Kb (bB BK538.out) hb); have n6_ := am (Kb (bB BK558.out) hb); have n7_ := am (Kb (bB BK567.out) hb); have n8_ := am (Kh (sB HB.out) hb); clear HO570; clear BK509; clear BK528; clear BK529; clear BK538; clear BK558; clear BK567; clear HB; have HO570 := n0_; have HO573 := n1_; have BK509 := n2_; have BK528 := n3_; have BK529 := n4_; have BK538 := n5_; have BK558 := n6_; have BK567 := n7_; have HB := n8_; clear n0_ n1_ n2_ n3_ n4_ n5_ n6_ n7_ n8_; clear hb ho159; obtain ⟨Ao160, co160, eo160⟩ := Kd.R_slice HO570.out; subst eo160; obtain ⟨Ao161, co161, eo161⟩ := Kd.R_slice HO573.out; subst eo161) | (go_at_call 13; (with_reducible refine (impl_IsWithinGrants.calls kj43 _ _ y568 _ _ y571 true _ ?side1 ?side2 ?side3 ?side4 A123.out).mono ?_); (case side1 => exact cB ((Kq HO570.out).2.2)); (case side2 => exact (Kq HO570.out).2.1); (case side3 => exact cB ((Kq HO573.out).2.2)); (case side4 => exact (Kq HO573.out).2.1); rintro e w162 ⟨rfl, hb⟩; replace HO570 := am (Ko (rB HO570.out) hb); replace HO573 := am (Ko (rB HO573.out) hb); replace BK509 := am (Kb (bB BK509.out) hb); replace BK528 := am (Kb (bB BK528.out) hb); replace BK529 := am (Kb (bB BK529.out) hb); replace BK538 := am (Kb (bB BK538.out) hb); replace BK558 := am (Kb (bB BK558.out) hb); replace BK567 := am (Kb (bB BK567.out) hb); replace HB := am (Kh (sB HB.out) hb); (try clear hb); obtain ⟨hcz163_0, hcz163_1, hcz163_2, hcz163_3, hcz163_4, hcz163_5, hcz163_6, hfz163_0, hfz163_1, hfz163_2, hfz163_3, hfz163_4, hfz163_5, hfz163_6⟩ := blk7 BK567.out))
             go_meet
             case rel => exact ⟨_, (decide (t564 > t557)), (by first | rfl | (simp; done) | (simp [*]; done)), H', ⟨by have := HJ8.out; have := HJ43.out; first | omega | exact Nat.le_refl _⟩, ⟨bB BK509.out⟩, ⟨bB BK528.out⟩, ⟨bB BK529.out⟩, ⟨bB BK538.out⟩, ⟨bB BK558.out⟩, ⟨bB BK567.out⟩, ⟨sB HB.out⟩⟩
           ·replace c124 := bF c124
            subst c124
            replace H := hF H
            have H' := am H
            clear H
            have hnb164 := NB567_509.out
            have hnc164 := NB509_567.out
            have hnb165 := NB567_528.out
            have hnc165 := NB528_567.out
            have hnb166 := NB567_529.out
            have hnc166 := NB529_567.out
            have hnb167 := NB567_538.out
            have hnc167 := NB538_567.out
            have hnb168 := NB567_558.out
            have hnc168 := NB558_567.out
            have hcz169_0 : w115.cell? ⟨gb567, 0, none⟩ = some (.int .i64 0) := (Kk BK567.out 0).trans rfl
            have hcz169_1 : w115.cell? ⟨gb567, 1, none⟩ = some (.int .i64 0) := (Kk BK567.out 1).trans rfl
            have hcz169_2 : w115.cell? ⟨gb567, 2, none⟩ = some (.int .i64 0) := (Kk BK567.out 2).trans rfl
            have hcz169_3 : w115.cell? ⟨gb567, 3, none⟩ = some (.int .i64 0) := (Kk BK567.out 3).trans rfl
            have hcz169_4 : w115.cell? ⟨gb567, 4, none⟩ = some (.int .i64 0) := (Kk BK567.out 4).trans rfl
            have hcz169_5 : w115.cell? ⟨gb567, 5, none⟩ = some (.int .i64 0) := (Kk BK567.out 5).trans rfl
            have hcz169_6 : w115.cell? ⟨gb567, 6, none⟩ = some (.bool false) := (Kk BK567.out 6).trans rfl
            have hfz169_0 := Kr BK567.out 0
            have hfz169_1 := Kr BK567.out 1
            have hfz169_2 := Kr BK567.out 2
            have hfz169_3 := Kr BK567.out 3
            have hfz169_4 := Kr BK567.out 4
            have hfz169_5 := Kr BK567.out 5
            have hfz169_6 := Kr BK567.out 6
            go_wp2_with (first | ((with_reducible refine gate_dst (N := 152) rfl ?_); (try (refine gate_guard (by rfl) ?_; dsimp only)); refine Kd.R_lit k35 _ 35 ?hg (N := 152) ?hd (xs := ([(⟨t559, (⟨t560, t561⟩ : S33), t562, t563, t564, t565⟩ : S35)] : List (S35))) (inner := [.int .i64 t559, .int .i64 t560, .int .i64 t561, .int .i64 t562, .int .i64 t563, .int .i64 t564, .bool t565]) (ok := fun _ => True) (okp := fun _ => True) ?hr ?hp (fun _ hk => hk) trivial (Below.refl _ _) (Nat.le_refl _) (by simp) ?_; (case hd => rfl); (case hg => rfl); (case hr => first | (go_simp; done) | (go_simp; rfl)); (case hp => exact (Reps.c7 (show Kd.M k35 _ _ _ (⟨t559, (⟨t560, t561⟩ : S33), t562, t563, t564, t565⟩ : S35) [.int .i64 t559, .int .i64 t560, .int .i64 t561, .int .i64 t562, .int .i64 t563, .int .i64 t564, .bool t565] from (k35_mkM _ _ _ (⟨t559, (⟨t560, t561⟩ : S33), t562, t563, t564, t565⟩ : S35) )) (Reps.none _ _))); intro v569 w170 ho171 hb hg_ hnew_; clear hg_ hnew_; (first | rw [← Ny568.out] at ho171 | (simp only [Int.reduceToNat] at ho171; rw [← Ny568.out] at ho171)); have n0_ := am (Kd.R_lower (Kd.R_newB (Kd.R_newB (Kd.R_newB (Kd.R_newB ho171 (fB NB528_567.out BK528.out)) (fB NB538_567.out BK538.out)) (fB NB558_567.out BK558.out)) (g := gb567) (o := .cells #[.int .i64 t559, .int .i64 t560, .int .i64 t561, .int .i64 t562, .int .i64 t563, .int .i64 t564, .bool t565] 35 (0, 0)) (by refine bB ?_; refine Kg (cs := #[.int .i64 t559, .int .i64 t560, .int .i64 t561, .int .i64 t562, .int .i64 t563, .int .i64 t564, .bool false]) ?_ 6 _ rfl; refine bB ?_; refine Kg (cs := #[.int .i64 t559, .int .i64 t560, .int .i64 t561, .int .i64 t562, .int .i64 t563, .int .i64 0, .bool false]) ?_ 5 _ rfl; refine bB ?_; refine Kg (cs := #[.int .i64 t559, .int .i64 t560, .int .i64 t561, .int .i64 t562, .int .i64 0, .int .i64 0, .bool false]) ?_ 4 _ rfl; refine bB ?_; refine Kg (cs := #[.int .i64 t559, .int .i64 t560, .int .i64 t561, .int .i64 0, .int .i64 0, .int .i64 0, .bool false]) ?_ 3 _ rfl; refine bB ?_; refine Kg (cs := #[.int .i64 t559, .int .i64 t560, .int .i64 0, .int .i64 0, .int .i64 0, .int .i64 0, .bool false]) ?_ 2 _ rfl; refine bB ?_; refine Kg (cs := #[.int .i64 t559, .int .i64 0, .int .i64 0, .int .i64 0, .int .i64 0, .int .i64 0, .bool false]) ?_ 1 _ rfl; refine bB ?_; refine Kg (cs := #[.int .i64 0, .int .i64 0, .int .i64 0, .int .i64 0, .int .i64 0, .int .i64 0, .bool false]) ?_ 0 _ rfl; refine bB ?_; exact BK567.out)) (below_size (sB HB.out))); have n1_ := am (Kb (fB NB509_567.out BK509.out) hb); have n2_ := am (Kb (fB NB528_567.out BK528.out) hb); have n3_ := am (Kb (fB NB529_567.out BK529.out) hb); have n4_ := am (Kb (fB NB538_567.out BK538.out) hb); have n5_ := am (Kb (fB NB558_567.out BK558.out) hb); have n6_ := am (Kb (g := gb567) (o := .cells #[.int .i64 t559, .int .i64 t560, .int .i64 t561, .int .i64 t562, .int .i64 t563, .int .i64 t564, .bool t565] 35 (0, 0)) (by refine bB ?_; refine Kg (cs := #[.int .i64 t559, .int .i64 t560, .int .i64 t561, .int .i64 t562, .int .i64 t563, .int .i64 t564, .bool false]) ?_ 6 _ rfl; refine bB ?_; refine Kg (cs := #[.int .i64 t559, .int .i64 t560, .int .i64 t561, .int .i64 t562, .int .i64 t563, .int .i64 0, .bool false]) ?_ 5 _ rfl; refine bB ?_; refine Kg (cs := #[.int .i64 t559, .int .i64 t560, .int .i64 t561, .int .i64 t562, .int .i64 0, .int .i64 0, .bool false]) ?_ 4 _ rfl; refine bB ?_; refine Kg (cs := #[.int .i64 t559, .int .i64 t560, .int .i64 t561, .int .i64 0, .int .i64 0, .int .i64 0, .bool false]) ?_ 3 _ rfl; refine bB ?_; refine Kg (cs := #[.int .i64 t559, .int .i64 t560, .int .i64 0, .int .i64 0, .int .i64 0, .int .i64 0, .bool false]) ?_ 2 _ rfl; refine bB ?_; refine Kg (cs := #[.int .i64 t559, .int .i64 0, .int .i64 0, .int .i64 0, .int .i64 0, .int .i64 0, .bool false]) ?_ 1 _ rfl; refine bB ?_; refine Kg (cs := #[.int .i64 0, .int .i64 0, .int .i64 0, .int .i64 0, .int .i64 0, .int .i64 0, .bool false]) ?_ 0 _ rfl; refine bB ?_; exact BK567.out) hb); have n7_ := am (Kh (sB HB.out) hb); clear BK509; clear BK528; clear BK529; clear BK538; clear BK558; clear BK567; clear HB; have HO570 := n0_; have BK509 := n1_; have BK528 := n2_; have BK529 := n3_; have BK538 := n4_; have BK558 := n5_; have BK567 := n6_; have HB := n7_; clear n0_ n1_ n2_ n3_ n4_ n5_ n6_ n7_; clear hb ho171; have hnb172 := NB558_509.out; have hnc172 := NB509_558.out; have hnb173 := NB558_528.out; have hnc173 := NB528_558.out; have hnb174 := NB558_529.out; have hnc174 := NB529_558.out; have hnb175 := NB558_538.out; have hnc175 := NB538_558.out; obtain ⟨hcz176_0, hcz176_1, hcz176_2, hcz176_3, hcz176_4, hcz176_5, hcz176_6, hfz176_0, hfz176_1, hfz176_2, hfz176_3, hfz176_4, hfz176_5, hfz176_6⟩ := blk7 BK558.out) | ((with_reducible refine gate_dst (N := 154) rfl ?_); (try (refine gate_guard (by rfl) ?_; dsimp only)); refine Kd.R_lit k35 _ 35 ?hg (N := 154) ?hd (xs := ([(⟨t549, (⟨t550, t551⟩ : S33), t552, t553, t554, t555⟩ : S35)] : List (S35))) (inner := [.int .i64 t549, .int .i64 t550, .int .i64 t551, .int .i64 t552, .int .i64 t553, .int .i64 t554, .bool t555]) (ok := fun _ => True) (okp := fun _ => True) ?hr ?hp (fun _ hk => hk) trivial (Below.refl _ _) (Nat.le_refl _) (by simp) ?_; (case hd => rfl); (case hg => rfl); (case hr => first | (go_simp; done) | (go_simp; rfl)); (case hp => exact (Reps.c7 (show Kd.M k35 _ _ _ (⟨t549, (⟨t550, t551⟩ : S33), t552, t553, t554, t555⟩ : S35) [.int .i64 t549, .int .i64 t550, .int .i64 t551, .int .i64 t552, .int .i64 t553, .int .i64 t554, .bool t555] from (k35_mkM _ _ _ (⟨t549, (⟨t550, t551⟩ : S33), t552, t553, t554, t555⟩ : S35) )) (Reps.none _ _))); intro v572 w177 ho178 hb hg_ hnew_; clear hg_ hnew_; (first | rw [← Ny571.out] at ho178 | (simp only [Int.reduceToNat] at ho178; rw [← Ny571.out] at ho178)); have n0_ := am (Kd.R_elder' (rB HO570.out) (Kd.R_base ho178) hb); have n1_ := am (Kd.R_lower (Kd.R_newB (Kd.R_newB (Kd.R_newB (Kd.R_newB (Kd.R_new' ho178 (Kd.R_lt (rB HO570.out))) (bB BK528.out)) (bB BK538.out)) (bB BK558.out)) (bB BK567.out)) (below_size (sB HB.out))); have n2_ := am (Kb (bB BK509.out) hb); have n3_ := am (Kb (bB BK528.out) hb); have n4_ := am (Kb (bB BK529.out) hb); have n5_ := am (Kb (bB BK538.out) hb); have n6_ := am (Kb (bB BK558.out) hb); have n7_ := am (Kb (bB BK567.out) hb); have n8_ := am (Kh (sB HB.out) hb); clear HO570; clear BK509; clear BK528; clear BK529; clear BK538; clear BK558; clear BK567; clear HB; have HO570 := n0_; have HO573 := n1_; have BK509 := n2_; have BK528 := n3_; have BK529 := n4_; have BK538 := n5_; have BK558 := n6_; have BK567 := n7_; have HB := n8_; clear n0_ n1_ n2_ n3_ n4_ n5_ n6_ n7_ n8_; clear hb ho178; obtain ⟨Ao179, co179, eo179⟩ := Kd.R_slice HO570.out; subst eo179; obtain ⟨Ao180, co180, eo180⟩ := Kd.R_slice HO573.out; subst eo180) | (go_at_call 13; (with_reducible refine (impl_IsWithinGrants.calls kj43 _ _ y568 _ _ y571 false _ ?side1 ?side2 ?side3 ?side4 A123.out).mono ?_); (case side1 => exact cB ((Kq HO570.out).2.2)); (case side2 => exact (Kq HO570.out).2.1); (case side3 => exact cB ((Kq HO573.out).2.2)); (case side4 => exact (Kq HO573.out).2.1); rintro e w181 ⟨rfl, hb⟩; replace HO570 := am (Ko (rB HO570.out) hb); replace HO573 := am (Ko (rB HO573.out) hb); replace BK509 := am (Kb (bB BK509.out) hb); replace BK528 := am (Kb (bB BK528.out) hb); replace BK529 := am (Kb (bB BK529.out) hb); replace BK538 := am (Kb (bB BK538.out) hb); replace BK558 := am (Kb (bB BK558.out) hb); replace BK567 := am (Kb (bB BK567.out) hb); replace HB := am (Kh (sB HB.out) hb); (try clear hb)))
            go_meet
            case rel => exact ⟨_, (true), (by first | rfl | (simp; done) | (simp [*]; done)), H', ⟨by have := HJ8.out; have := HJ43.out; first | omega | exact Nat.le_refl _⟩, ⟨bB BK509.out⟩, ⟨bB BK528.out⟩, ⟨bB BK529.out⟩, ⟨bB BK538.out⟩, ⟨bB BK558.out⟩, ⟨bB BK567.out⟩, ⟨sB HB.out⟩⟩
          ·replace c122 := bF c122
           subst c122
           replace H := hF H
           have H' := am H
           clear H
           go_wp2
           go_meet
           case rel => exact ⟨_, (false), (by first | rfl | (simp; done) | (simp [*]; done)), H', ⟨by have := HJ8.out; have := HJ43.out; first | omega | exact Nat.le_refl _⟩, ⟨by refine bB ?_; refine blk_far ?_ NB509_567.out _; refine bB ?_; refine blk_far ?_ NB509_567.out _; refine bB ?_; refine blk_far ?_ NB509_567.out _; refine bB ?_; refine blk_far ?_ NB509_567.out _; refine bB ?_; refine blk_far ?_ NB509_567.out _; refine bB ?_; refine blk_far ?_ NB509_567.out _; refine bB ?_; refine blk_far ?_ NB509_567.out _; refine bB ?_; exact BK509.out⟩, ⟨by refine bB ?_; refine blk_far ?_ NB528_567.out _; refine bB ?_; refine blk_far ?_ NB528_567.out _; refine bB ?_; refine blk_far ?_ NB528_567.out _; refine bB ?_; refine blk_far ?_ NB528_567.out _; refine bB ?_; refine blk_far ?_ NB528_567.out _; refine bB ?_; refine blk_far ?_ NB528_567.out _; refine bB ?_; refine blk_far ?_ NB528_567.out _; refine bB ?_; exact BK528.out⟩, ⟨by refine bB ?_; refine blk_far ?_ NB529_567.out _; refine bB ?_; refine blk_far ?_ NB529_567.out _; refine bB ?_; refine blk_far ?_ NB529_567.out _; refine bB ?_; refine blk_far ?_ NB529_567.out _; refine bB ?_; refine blk_far ?_ NB529_567.out _; refine bB ?_; refine blk_far ?_ NB529_567.out _; refine bB ?_; refine blk_far ?_ NB529_567.out _; refine bB ?_; exact BK529.out⟩, ⟨by refine bB ?_; refine blk_far ?_ NB538_567.out _; refine bB ?_; refine blk_far ?_ NB538_567.out _; refine bB ?_; refine blk_far ?_ NB538_567.out _; refine bB ?_; refine blk_far ?_ NB538_567.out _; refine bB ?_; refine blk_far ?_ NB538_567.out _; refine bB ?_; refine blk_far ?_ NB538_567.out _; refine bB ?_; refine blk_far ?_ NB538_567.out _; refine bB ?_; exact BK538.out⟩, ⟨by refine bB ?_; refine blk_far ?_ NB558_567.out _; refine bB ?_; refine blk_far ?_ NB558_567.out _; refine bB ?_; refine blk_far ?_ NB558_567.out _; refine bB ?_; refine blk_far ?_ NB558_567.out _; refine bB ?_; refine blk_far ?_ NB558_567.out _; refine bB ?_; refine blk_far ?_ NB558_567.out _; refine bB ?_; refine blk_far ?_ NB558_567.out _; refine bB ?_; exact BK558.out⟩, ⟨by refine bB ?_; refine Kg (cs := #[.int .i64 t559, .int .i64 t560, .int .i64 t561, .int .i64 t562, .int .i64 t563, .int .i64 t564, .bool false]) ?_ 6 _ rfl; refine bB ?_; refine Kg (cs := #[.int .i64 t559, .int .i64 t560, .int .i64 t561, .int .i64 t562, .int .i64 t563, .int .i64 0, .bool false]) ?_ 5 _ rfl; refine bB ?_; refine Kg (cs := #[.int .i64 t559, .int .i64 t560, .int .i64 t561, .int .i64 t562, .int .i64 0, .int .i64 0, .bool false]) ?_ 4 _ rfl; refine bB ?_; refine Kg (cs := #[.int .i64 t559, .int .i64 t560, .int .i64 t561, .int .i64 0, .int .i64 0, .int .i64 0, .bool false]) ?_ 3 _ rfl; refine bB ?_; refine Kg (cs := #[.int .i64 t559, .int .i64 t560, .int .i64 0, .int .i64 0, .int .i64 0, .int .i64 0, .bool false]) ?_ 2 _ rfl; refine bB ?_; refine Kg (cs := #[.int .i64 t559, .int .i64 0, .int .i64 0, .int .i64 0, .int .i64 0, .int .i64 0, .bool false]) ?_ 1 _ rfl; refine bB ?_; refine Kg (cs := #[.int .i64 0, .int .i64 0, .int .i64 0, .int .i64 0, .int .i64 0, .int .i64 0, .bool false]) ?_ 0 _ rfl; refine bB ?_; exact BK567.out⟩, ⟨sB HB.out⟩⟩
         case rest =>
          clear HC106
          try clear c1
          try clear p2
          try clear c5
          try clear c7
          try clear c10
          try clear c11
          try clear c12
          try clear c13
          try clear c14
          try clear c15
          try clear c16
          try clear c17
          try clear c59
          try clear c103
          try clear c109
          try clear c110
          try clear c111
          try clear c112
          try clear c116
          try clear c117
          try clear c118
          try clear c119
          try clear c120
          try clear c122
          try clear c124
          try clear c125
          try clear c125b0
          try clear c126
          try clear c127
          try clear c128
          try clear c129
          try clear c130
          try clear c134
          try clear c135
          try clear c136
          try clear c137
          try clear c145
          try clear c146
          try clear c147
          try clear c148
          try clear c149
          try clear c153
          try clear c154
          try clear c155
          try clear c156
          try clear c164
          try clear c165
          try clear c166
          try clear c167
          try clear c168
          try clear c172
          try clear c173
          try clear c174
          try clear c175
          try clear hcz113_0 hcz113_1 hcz113_2 hcz113_3 hcz113_4 hcz113_5 hcz113_6
          try clear hcz121_0 hcz121_1 hcz121_2 hcz121_3 hcz121_4 hcz121_5 hcz121_6
          try clear hcz131_0 hcz131_1 hcz131_2 hcz131_3 hcz131_4 hcz131_5 hcz131_6
          try clear hcz138_0 hcz138_1 hcz138_2 hcz138_3 hcz138_4 hcz138_5 hcz138_6
          try clear hcz144_0 hcz144_1 hcz144_2 hcz144_3 hcz144_4 hcz144_5 hcz144_6
          try clear hcz150_0 hcz150_1 hcz150_2 hcz150_3 hcz150_4 hcz150_5 hcz150_6
          try clear hcz157_0 hcz157_1 hcz157_2 hcz157_3 hcz157_4 hcz157_5 hcz157_6
          try clear hcz163_0 hcz163_1 hcz163_2 hcz163_3 hcz163_4 hcz163_5 hcz163_6
          try clear hcz169_0 hcz169_1 hcz169_2 hcz169_3 hcz169_4 hcz169_5 hcz169_6
          try clear hcz176_0 hcz176_1 hcz176_2 hcz176_3 hcz176_4 hcz176_5 hcz176_6
          try clear hfz113_0 hfz113_1 hfz113_2 hfz113_3 hfz113_4 hfz113_5 hfz113_6
          try clear hfz121_0 hfz121_1 hfz121_2 hfz121_3 hfz121_4 hfz121_5 hfz121_6
          try clear hfz131_0 hfz131_1 hfz131_2 hfz131_3 hfz131_4 hfz131_5 hfz131_6
          try clear hfz138_0 hfz138_1 hfz138_2 hfz138_3 hfz138_4 hfz138_5 hfz138_6
          try clear hfz144_0 hfz144_1 hfz144_2 hfz144_3 hfz144_4 hfz144_5 hfz144_6
          try clear hfz150_0 hfz150_1 hfz150_2 hfz150_3 hfz150_4 hfz150_5 hfz150_6
          try clear hfz157_0 hfz157_1 hfz157_2 hfz157_3 hfz157_4 hfz157_5 hfz157_6
          try clear hfz163_0 hfz163_1 hfz163_2 hfz163_3 hfz163_4 hfz163_5 hfz163_6
          try clear hfz169_0 hfz169_1 hfz169_2 hfz169_3 hfz169_4 hfz169_5 hfz169_6
          try clear hfz176_0 hfz176_1 hfz176_2 hfz176_3 hfz176_4 hfz176_5 hfz176_6
          try clear p2
          obtain ⟨kq, x169_105, rfl, HA, HJ105, BK509, BK528, BK529, BK538, BK558, BK567, HB⟩ := hcut
          cases kq with
          | zero => exact absurd HA.out (by simp [laws_FnNarrowed.j2])
          | succ kj105 =>
           have H := HA.out
           clear HA
           simp only [laws_FnNarrowed.j2] at H
           by_cases c182 : x169_105 = true
           ·subst c182
            replace H := hT H
            exact absurd ((Option.some.inj H).trans HRT.out) (by decide)
           ·replace c182 := bF c182
            subst c182
            replace H := hF H
            replace H := bO H
            obtain ⟨⟨t575, t576⟩, A183, H⟩ := H
            try dsimp only at H
            replace H := bO H
            obtain ⟨t581, A184, H⟩ := H
            by_cases c185 : t581 = true
            ·subst c185
             replace H := hT H
             have H' := am H
             clear H
             go_wp2_with (first | ((with_reducible refine gate_callee (f := 18) rfl ?_); refine gL (some 172) Try.func18 #[.slice A0 l0.length c0] ?_; (with_reducible refine (spec_DrawIsWithinGrants.calls kj105 _ _ l0 t575 t576 _ ?side1 ?side2 A183.out).mono ?_); (case side1 => exact cB ((Kd.C_below HR0.out HB.out))); (case side2 => exact HC0.out); rintro e w186 ⟨v577, v579, rfl, ho0, ho1, hb⟩; refine ⟨_, rfl, ?_⟩; have n0_ := am (Kd.R_lower (Kd.R_newB (Kd.R_newB (Kd.R_newB (Kd.R_newB ho0 (bB BK528.out)) (bB BK538.out)) (bB BK558.out)) (bB BK567.out)) (below_size (sB HB.out))); have n1_ := am (Kd.R_lower (Kd.R_newB (Kd.R_newB (Kd.R_newB (Kd.R_newB ho1 (bB BK528.out)) (bB BK538.out)) (bB BK558.out)) (bB BK567.out)) (below_size (sB HB.out))); have n2_ := am (Kb (bB BK509.out) hb); have n3_ := am (Kb (bB BK528.out) hb); have n4_ := am (Kb (bB BK529.out) hb); have n5_ := am (Kb (bB BK538.out) hb); have n6_ := am (Kb (bB BK558.out) hb); have n7_ := am (Kb (bB BK567.out) hb); have n8_ := am (Kh (sB HB.out) hb); clear BK509; clear BK528; clear BK529; clear BK538; clear BK558; clear BK567; clear HB; have HO578 := n0_; have HO580 := n1_; have BK509 := n2_; have BK528 := n3_; have BK529 := n4_; have BK538 := n5_; have BK558 := n6_; have BK567 := n7_; have HB := n8_; clear n0_ n1_ n2_ n3_ n4_ n5_ n6_ n7_ n8_; (try clear hb); (try clear ho0); (try clear ho1); obtain ⟨Ao187, co187, eo187⟩ := Kd.R_slice HO578.out; subst eo187; obtain ⟨Ao188, co188, eo188⟩ := Kd.R_slice HO580.out; subst eo188) | ((with_reducible refine gate_callee (f := 13) rfl ?_); refine gL (some 177) Try.func13 #[.slice Ao187 t575.length co187, .slice Ao188 t576.length co188] ?_; (with_reducible refine (impl_IsWithinGrants.calls kj105 _ _ t575 _ _ t576 true _ ?side1 ?side2 ?side3 ?side4 A184.out).mono ?_); (case side1 => exact cB ((Kq HO578.out).2.2)); (case side2 => exact (Kq HO578.out).2.1); (case side3 => exact cB ((Kq HO580.out).2.2)); (case side4 => exact (Kq HO580.out).2.1); rintro e w189 ⟨rfl, hb⟩; refine ⟨_, rfl, ?_⟩; replace HO578 := am (Ko (rB HO578.out) hb); replace HO580 := am (Ko (rB HO580.out) hb); replace BK509 := am (Kb (bB BK509.out) hb); replace BK528 := am (Kb (bB BK528.out) hb); replace BK529 := am (Kb (bB BK529.out) hb); replace BK538 := am (Kb (bB BK538.out) hb); replace BK558 := am (Kb (bB BK558.out) hb); replace BK567 := am (Kb (bB BK567.out) hb); replace HB := am (Kh (sB HB.out) hb); (try clear hb)))
             go_loopg [22] kj105 (fun kq v22 w' => ∃ (x22_4 : Int), v22 = .int .i64 x22_4 ∧ Aside0 (laws_FnNarrowed.l0 kq t503 t508 t575 t576 x22_4 t504 t505 = some r) ∧ Aside0 (kq ≤ kj105) ∧ Aside0 (Kd.R k35 35 w' w.heap.size (fun k_ => some k_ ≠ ((.slice Ao188 t576.length co188) : Value).ownBlock ∧ k_ ≠ gb528 ∧ k_ ≠ gb538 ∧ k_ ≠ gb558 ∧ k_ ≠ gb567) (.slice Ao187 t575.length co187) t575) ∧ Aside0 (Kd.R k35 35 w' w.heap.size (fun k_ => some k_ ≠ ((.slice Ao187 t575.length co187) : Value).ownBlock ∧ k_ ≠ gb528 ∧ k_ ≠ gb538 ∧ k_ ≠ gb558 ∧ k_ ≠ gb567) (.slice Ao188 t576.length co188) t576) ∧ Aside0 (w'.heap[gb509]? = some (.cells #[.int .i64 t504, .int .i64 t505] 27 (0, 0))) ∧ Aside0 (w'.heap[gb528]? = some (.cells #[.int .i64 t519, .int .i64 t520, .int .i64 t521, .int .i64 t522, .int .i64 t523, .int .i64 t524, .bool t525] 35 (0, 0))) ∧ Aside0 (w'.heap[gb529]? = some (.cells #[.int .i64 t526, .int .i64 t527] 33 (0, 0))) ∧ Aside0 (w'.heap[gb538]? = some (.cells #[.int .i64 t530, .int .i64 t531, .int .i64 t532, .int .i64 t533, .int .i64 t534, .int .i64 t535, .bool t536] 35 (0, 0))) ∧ Aside0 (w'.heap[gb558]? = some (.cells #[.int .i64 t549, .int .i64 t550, .int .i64 t551, .int .i64 t552, .int .i64 t553, .int .i64 t554, .bool t555] 35 (0, 0))) ∧ Aside0 (w'.heap[gb567]? = some (.cells #[.int .i64 t559, .int .i64 t560, .int .i64 t561, .int .i64 t562, .int .i64 t563, .int .i64 t564, .bool t565] 35 (0, 0))) ∧ Aside0 (Below w.heap.size w w'))
             case atStart => exact ⟨(0), (by first | rfl | (simp; done) | (simp [*]; done)), H', ⟨Nat.le_refl _⟩, ⟨by (with_reducible repeat (first | apply Kd.R_alloc | apply Kd.R_drewN | apply Kd.R_drew)); exact Kt HO578.out (fun _ hk => ⟨hk.1.1.1.1, ⟨hk.1.1.1.2, ⟨hk.1.1.2, ⟨hk.1.2, hk.2⟩⟩⟩⟩)⟩, ⟨by (with_reducible repeat (first | apply Kd.R_alloc | apply Kd.R_drewN | apply Kd.R_drew)); exact Kt HO580.out (fun _ hk => ⟨hk.1.1.1.1, ⟨hk.1.1.1.2, ⟨hk.1.1.2, ⟨hk.1.2, hk.2⟩⟩⟩⟩)⟩, ⟨bB BK509.out⟩, ⟨bB BK528.out⟩, ⟨bB BK529.out⟩, ⟨bB BK538.out⟩, ⟨bB BK558.out⟩, ⟨bB BK567.out⟩, ⟨sB HB.out⟩⟩
             case round =>
              clear H'
              try clear c1
              try clear p2
              try clear c5
              try clear c7
              try clear c10
              try clear c11
              try clear c12
              try clear c13
              try clear c14
              try clear c15
              try clear c16
              try clear c17
              try clear c18
              try clear c59
              try clear c103
              try clear c109
              try clear c110
              try clear c111
              try clear c112
              try clear c116
              try clear c117
              try clear c118
              try clear c119
              try clear c120
              try clear c122
              try clear c124
              try clear c125
              try clear c125b0
              try clear c126
              try clear c127
              try clear c128
              try clear c129
              try clear c130
              try clear c134
              try clear c135
              try clear c136
              try clear c137
              try clear c145
              try clear c146
              try clear c147
              try clear c148
              try clear c149
              try clear c153
              try clear c154
              try clear c155
              try clear c156
              try clear c164
              try clear c165
              try clear c166
              try clear c167
              try clear c168
              try clear c172
              try clear c173
              try clear c174
              try clear c175
              try clear c182
              try clear c185
              try clear hcz113_0 hcz113_1 hcz113_2 hcz113_3 hcz113_4 hcz113_5 hcz113_6
              try clear hcz121_0 hcz121_1 hcz121_2 hcz121_3 hcz121_4 hcz121_5 hcz121_6
              try clear hcz131_0 hcz131_1 hcz131_2 hcz131_3 hcz131_4 hcz131_5 hcz131_6
              try clear hcz138_0 hcz138_1 hcz138_2 hcz138_3 hcz138_4 hcz138_5 hcz138_6
              try clear hcz144_0 hcz144_1 hcz144_2 hcz144_3 hcz144_4 hcz144_5 hcz144_6
              try clear hcz150_0 hcz150_1 hcz150_2 hcz150_3 hcz150_4 hcz150_5 hcz150_6
              try clear hcz157_0 hcz157_1 hcz157_2 hcz157_3 hcz157_4 hcz157_5 hcz157_6
              try clear hcz163_0 hcz163_1 hcz163_2 hcz163_3 hcz163_4 hcz163_5 hcz163_6
              try clear hcz169_0 hcz169_1 hcz169_2 hcz169_3 hcz169_4 hcz169_5 hcz169_6
              try clear hcz176_0 hcz176_1 hcz176_2 hcz176_3 hcz176_4 hcz176_5 hcz176_6
              try clear hfz113_0 hfz113_1 hfz113_2 hfz113_3 hfz113_4 hfz113_5 hfz113_6
              try clear hfz121_0 hfz121_1 hfz121_2 hfz121_3 hfz121_4 hfz121_5 hfz121_6
              try clear hfz131_0 hfz131_1 hfz131_2 hfz131_3 hfz131_4 hfz131_5 hfz131_6
              try clear hfz138_0 hfz138_1 hfz138_2 hfz138_3 hfz138_4 hfz138_5 hfz138_6
              try clear hfz144_0 hfz144_1 hfz144_2 hfz144_3 hfz144_4 hfz144_5 hfz144_6
              try clear hfz150_0 hfz150_1 hfz150_2 hfz150_3 hfz150_4 hfz150_5 hfz150_6
              try clear hfz157_0 hfz157_1 hfz157_2 hfz157_3 hfz157_4 hfz157_5 hfz157_6
              try clear hfz163_0 hfz163_1 hfz163_2 hfz163_3 hfz163_4 hfz163_5 hfz163_6
              try clear hfz169_0 hfz169_1 hfz169_2 hfz169_3 hfz169_4 hfz169_5 hfz169_6
              try clear hfz176_0 hfz176_1 hfz176_2 hfz176_3 hfz176_4 hfz176_5 hfz176_6
              try clear p2
              obtain ⟨x22_4, rfl, HA, HK4, HO_20, HO_21, BK509, BK528, BK529, BK538, BK558, BK567, HB⟩ := hrel
              cases gk with
              | zero => exact absurd HA.out (by simp [laws_FnNarrowed.l0])
              | succ k4 =>
               have H := HA.out
               clear HA
               simp only [laws_FnNarrowed.l0] at H
               by_cases c190 : x22_4 < 22
               ·rw [if_pos c190] at H
                have c190b0 : decide (x22_4 < 22) = true := decide_eq_true c190
                clear c190
                have H' := am H
                clear H
                go_wp2
                go_loopg [23] k4 (fun kq v23 w' => ∃ (x23_5 : Int), v23 = .int .i64 x23_5 ∧ Aside0 (laws_FnNarrowed.l1 kq t503 t508 t575 t576 x22_4 x23_5 t504 t505 = some r) ∧ Aside0 (kq ≤ k4) ∧ Aside0 (Kd.R k35 35 w' w.heap.size (fun k_ => some k_ ≠ ((.slice Ao188 t576.length co188) : Value).ownBlock ∧ k_ ≠ gb528 ∧ k_ ≠ gb538 ∧ k_ ≠ gb558 ∧ k_ ≠ gb567) (.slice Ao187 t575.length co187) t575) ∧ Aside0 (Kd.R k35 35 w' w.heap.size (fun k_ => some k_ ≠ ((.slice Ao187 t575.length co187) : Value).ownBlock ∧ k_ ≠ gb528 ∧ k_ ≠ gb538 ∧ k_ ≠ gb558 ∧ k_ ≠ gb567) (.slice Ao188 t576.length co188) t576) ∧ Aside0 (w'.heap[gb509]? = some (.cells #[.int .i64 t504, .int .i64 t505] 27 (0, 0))) ∧ Aside0 (w'.heap[gb528]? = some (.cells #[.int .i64 t519, .int .i64 t520, .int .i64 t521, .int .i64 t522, .int .i64 t523, .int .i64 t524, .bool t525] 35 (0, 0))) ∧ Aside0 (w'.heap[gb529]? = some (.cells #[.int .i64 t526, .int .i64 t527] 33 (0, 0))) ∧ Aside0 (w'.heap[gb538]? = some (.cells #[.int .i64 t530, .int .i64 t531, .int .i64 t532, .int .i64 t533, .int .i64 t534, .int .i64 t535, .bool t536] 35 (0, 0))) ∧ Aside0 (w'.heap[gb558]? = some (.cells #[.int .i64 t549, .int .i64 t550, .int .i64 t551, .int .i64 t552, .int .i64 t553, .int .i64 t554, .bool t555] 35 (0, 0))) ∧ Aside0 (w'.heap[gb567]? = some (.cells #[.int .i64 t559, .int .i64 t560, .int .i64 t561, .int .i64 t562, .int .i64 t563, .int .i64 t564, .bool t565] 35 (0, 0))) ∧ Aside0 (Below w.heap.size w w'))
                case atStart => exact ⟨(1), (by first | rfl | (simp; done) | (simp [*]; done)), H', ⟨Nat.le_refl _⟩, ⟨by (with_reducible repeat (first | apply Kd.R_alloc | apply Kd.R_drewN | apply Kd.R_drew)); exact HO_20.out⟩, ⟨by (with_reducible repeat (first | apply Kd.R_alloc | apply Kd.R_drewN | apply Kd.R_drew)); exact HO_21.out⟩, ⟨bB BK509.out⟩, ⟨bB BK528.out⟩, ⟨bB BK529.out⟩, ⟨bB BK538.out⟩, ⟨bB BK558.out⟩, ⟨bB BK567.out⟩, ⟨sB HB.out⟩⟩
                case round =>
                 clear H'
                 try clear c1
                 try clear p2
                 try clear c5
                 try clear c7
                 try clear c10
                 try clear c11
                 try clear c12
                 try clear c13
                 try clear c14
                 try clear c15
                 try clear c16
                 try clear c17
                 try clear c18
                 try clear c19
                 try clear c59
                 try clear c103
                 try clear c109
                 try clear c110
                 try clear c111
                 try clear c112
                 try clear c116
                 try clear c117
                 try clear c118
                 try clear c119
                 try clear c120
                 try clear c122
                 try clear c124
                 try clear c125
                 try clear c125b0
                 try clear c126
                 try clear c127
                 try clear c128
                 try clear c129
                 try clear c130
                 try clear c134
                 try clear c135
                 try clear c136
                 try clear c137
                 try clear c145
                 try clear c146
                 try clear c147
                 try clear c148
                 try clear c149
                 try clear c153
                 try clear c154
                 try clear c155
                 try clear c156
                 try clear c164
                 try clear c165
                 try clear c166
                 try clear c167
                 try clear c168
                 try clear c172
                 try clear c173
                 try clear c174
                 try clear c175
                 try clear c182
                 try clear c185
                 try clear c190
                 try clear c190b0
                 try clear hcz113_0 hcz113_1 hcz113_2 hcz113_3 hcz113_4 hcz113_5 hcz113_6
                 try clear hcz121_0 hcz121_1 hcz121_2 hcz121_3 hcz121_4 hcz121_5 hcz121_6
                 try clear hcz131_0 hcz131_1 hcz131_2 hcz131_3 hcz131_4 hcz131_5 hcz131_6
                 try clear hcz138_0 hcz138_1 hcz138_2 hcz138_3 hcz138_4 hcz138_5 hcz138_6
                 try clear hcz144_0 hcz144_1 hcz144_2 hcz144_3 hcz144_4 hcz144_5 hcz144_6
                 try clear hcz150_0 hcz150_1 hcz150_2 hcz150_3 hcz150_4 hcz150_5 hcz150_6
                 try clear hcz157_0 hcz157_1 hcz157_2 hcz157_3 hcz157_4 hcz157_5 hcz157_6
                 try clear hcz163_0 hcz163_1 hcz163_2 hcz163_3 hcz163_4 hcz163_5 hcz163_6
                 try clear hcz169_0 hcz169_1 hcz169_2 hcz169_3 hcz169_4 hcz169_5 hcz169_6
                 try clear hcz176_0 hcz176_1 hcz176_2 hcz176_3 hcz176_4 hcz176_5 hcz176_6
                 try clear hfz113_0 hfz113_1 hfz113_2 hfz113_3 hfz113_4 hfz113_5 hfz113_6
                 try clear hfz121_0 hfz121_1 hfz121_2 hfz121_3 hfz121_4 hfz121_5 hfz121_6
                 try clear hfz131_0 hfz131_1 hfz131_2 hfz131_3 hfz131_4 hfz131_5 hfz131_6
                 try clear hfz138_0 hfz138_1 hfz138_2 hfz138_3 hfz138_4 hfz138_5 hfz138_6
                 try clear hfz144_0 hfz144_1 hfz144_2 hfz144_3 hfz144_4 hfz144_5 hfz144_6
                 try clear hfz150_0 hfz150_1 hfz150_2 hfz150_3 hfz150_4 hfz150_5 hfz150_6
                 try clear hfz157_0 hfz157_1 hfz157_2 hfz157_3 hfz157_4 hfz157_5 hfz157_6
                 try clear hfz163_0 hfz163_1 hfz163_2 hfz163_3 hfz163_4 hfz163_5 hfz163_6
                 try clear hfz169_0 hfz169_1 hfz169_2 hfz169_3 hfz169_4 hfz169_5 hfz169_6
                 try clear hfz176_0 hfz176_1 hfz176_2 hfz176_3 hfz176_4 hfz176_5 hfz176_6
                 try clear p2
                 obtain ⟨x23_5, rfl, HA, HK5, HO_20, HO_21, BK509, BK528, BK529, BK538, BK558, BK567, HB⟩ := hrel
                 cases gk with
                 | zero => exact absurd HA.out (by simp [laws_FnNarrowed.l1])
                 | succ k5 =>
                  have H := HA.out
                  clear HA
                  simp only [laws_FnNarrowed.l1] at H
                  by_cases c191 : x23_5 ≤ 4
                  ·rw [if_pos c191] at H
                   have c191b0 : decide (x23_5 ≤ 4) = true := decide_eq_true c191
                   clear c191
                   replace H := bO H
                   obtain ⟨t582, A192, H⟩ := H
                   by_cases c193 : t582 = true
                   ·subst c193
                    replace H := hT H
                    replace H := bO H
                    obtain ⟨t583, A194, H⟩ := H
                    by_cases c195 : t583 = true
                    ·subst c195
                     replace H := hT H
                     have H' := am H
                     clear H
                     have hnb196 := NB509_528.out
                     have hnc196 := NB528_509.out
                     have hnb197 := NB509_529.out
                     have hnc197 := NB529_509.out
                     have hnb198 := NB509_538.out
                     have hnc198 := NB538_509.out
                     have hnb199 := NB509_558.out
                     have hnc199 := NB558_509.out
                     have hnb200 := NB509_567.out
                     have hnc200 := NB567_509.out
                     have hcz201_0 : wr.cell? ⟨gb509, 0, none⟩ = some (.int .i64 t504) := (Kk BK509.out 0).trans rfl
                     have hcz201_1 : wr.cell? ⟨gb509, 1, none⟩ = some (.int .i64 t505) := (Kk BK509.out 1).trans rfl
                     have hfz201_0 := Kr BK509.out 0
                     have hfz201_1 := Kr BK509.out 1
                     go_wp2_with (first | ((with_reducible refine gate_callee (f := 8) rfl ?_); refine gL (some 193) Try.func8 #[.slice Ao187 t575.length co187, .int .i64 t503, .agg #[.int .i64 t504, .int .i64 t505], .int .i64 x23_5, .int .i64 x22_4, .bool t508] ?_; (with_reducible refine (impl_IsAllowed.calls k5 _ _ t575 t503 t504 t505 x23_5 x22_4 t508 true _ ?side1 ?side2 A192.out).mono ?_); (case side1 => exact cB ((Kq HO_20.out).2.2)); (case side2 => exact (Kq HO_20.out).2.1); rintro e w202 ⟨rfl, hb⟩; refine ⟨_, rfl, ?_⟩; replace HO_20 := am (Ko (rB HO_20.out) hb); replace HO_21 := am (Ko (rB HO_21.out) hb); replace BK509 := am (Kb (bB BK509.out) hb); replace BK528 := am (Kb (bB BK528.out) hb); replace BK529 := am (Kb (bB BK529.out) hb); replace BK538 := am (Kb (bB BK538.out) hb); replace BK558 := am (Kb (bB BK558.out) hb); replace BK567 := am (Kb (bB BK567.out) hb); replace HB := am (Kh (sB HB.out) hb); (try clear hb); obtain ⟨hcz203_0, hcz203_1, hfz203_0, hfz203_1⟩ := blk2 BK509.out) | (go_at_call 8; (with_reducible refine (impl_IsAllowed.calls k5 _ _ t576 t503 t504 t505 x23_5 x22_4 t508 true _ ?side1 ?side2 A194.out).mono ?_); (case side1 => exact cB ((Kq HO_21.out).2.2)); (case side2 => exact (Kq HO_21.out).2.1); rintro e w204 ⟨rfl, hb⟩; replace HO_20 := am (Ko (rB HO_20.out) hb); replace HO_21 := am (Ko (rB HO_21.out) hb); replace BK509 := am (Kb (bB BK509.out) hb); replace BK528 := am (Kb (bB BK528.out) hb); replace BK529 := am (Kb (bB BK529.out) hb); replace BK538 := am (Kb (bB BK538.out) hb); replace BK558 := am (Kb (bB BK558.out) hb); replace BK567 := am (Kb (bB BK567.out) hb); replace HB := am (Kh (sB HB.out) hb); (try clear hb)))
                     go_roundg k5
                     case measure => have := HJ8.out; have := HJ43.out; have := HJ105.out; have := HK4.out; have := HK5.out; omega
                     case rel => exact ⟨(wrap64 (x23_5 + 1)), (by first | rfl | (simp; done) | (simp [*]; done)), H', ⟨by have := HJ8.out; have := HJ43.out; have := HJ105.out; have := HK4.out; have := HK5.out; omega⟩, ⟨by (with_reducible repeat (first | apply Kd.R_alloc | apply Kd.R_drewN | apply Kd.R_drew)); exact HO_20.out⟩, ⟨by (with_reducible repeat (first | apply Kd.R_alloc | apply Kd.R_drewN | apply Kd.R_drew)); exact HO_21.out⟩, ⟨bB BK509.out⟩, ⟨bB BK528.out⟩, ⟨bB BK529.out⟩, ⟨bB BK538.out⟩, ⟨bB BK558.out⟩, ⟨bB BK567.out⟩, ⟨sB HB.out⟩⟩
                    ·replace c195 := bF c195
                     subst c195
                     replace H := hF H
                     exact absurd ((Option.some.inj H).trans HRT.out) (by decide)
                   ·replace c193 := bF c193
                    subst c193
                    replace H := hF H
                    have H' := am H
                    clear H
                    have hnb205 := NB509_528.out
                    have hnc205 := NB528_509.out
                    have hnb206 := NB509_529.out
                    have hnc206 := NB529_509.out
                    have hnb207 := NB509_538.out
                    have hnc207 := NB538_509.out
                    have hnb208 := NB509_558.out
                    have hnc208 := NB558_509.out
                    have hnb209 := NB509_567.out
                    have hnc209 := NB567_509.out
                    have hcz210_0 : wr.cell? ⟨gb509, 0, none⟩ = some (.int .i64 t504) := (Kk BK509.out 0).trans rfl
                    have hcz210_1 : wr.cell? ⟨gb509, 1, none⟩ = some (.int .i64 t505) := (Kk BK509.out 1).trans rfl
                    have hfz210_0 := Kr BK509.out 0
                    have hfz210_1 := Kr BK509.out 1
                    go_wp2_with (first | ((with_reducible refine gate_callee (f := 8) rfl ?_); refine gL (some 193) Try.func8 #[.slice Ao187 t575.length co187, .int .i64 t503, .agg #[.int .i64 t504, .int .i64 t505], .int .i64 x23_5, .int .i64 x22_4, .bool t508] ?_; (with_reducible refine (impl_IsAllowed.calls k5 _ _ t575 t503 t504 t505 x23_5 x22_4 t508 false _ ?side1 ?side2 A192.out).mono ?_); (case side1 => exact cB ((Kq HO_20.out).2.2)); (case side2 => exact (Kq HO_20.out).2.1); rintro e w211 ⟨rfl, hb⟩; refine ⟨_, rfl, ?_⟩; replace HO_20 := am (Ko (rB HO_20.out) hb); replace HO_21 := am (Ko (rB HO_21.out) hb); replace BK509 := am (Kb (bB BK509.out) hb); replace BK528 := am (Kb (bB BK528.out) hb); replace BK529 := am (Kb (bB BK529.out) hb); replace BK538 := am (Kb (bB BK538.out) hb); replace BK558 := am (Kb (bB BK558.out) hb); replace BK567 := am (Kb (bB BK567.out) hb); replace HB := am (Kh (sB HB.out) hb); (try clear hb)))
                    go_roundg k5
                    case measure => have := HJ8.out; have := HJ43.out; have := HJ105.out; have := HK4.out; have := HK5.out; omega
                    case rel => exact ⟨(wrap64 (x23_5 + 1)), (by first | rfl | (simp; done) | (simp [*]; done)), H', ⟨by have := HJ8.out; have := HJ43.out; have := HJ105.out; have := HK4.out; have := HK5.out; omega⟩, ⟨by (with_reducible repeat (first | apply Kd.R_alloc | apply Kd.R_drewN | apply Kd.R_drew)); exact HO_20.out⟩, ⟨by (with_reducible repeat (first | apply Kd.R_alloc | apply Kd.R_drewN | apply Kd.R_drew)); exact HO_21.out⟩, ⟨bB BK509.out⟩, ⟨bB BK528.out⟩, ⟨bB BK529.out⟩, ⟨bB BK538.out⟩, ⟨bB BK558.out⟩, ⟨bB BK567.out⟩, ⟨sB HB.out⟩⟩
                  ·rw [if_neg c191] at H
                   have c191b0 : decide (x23_5 ≤ 4) = false := decide_eq_false c191
                   clear c191
                   have H' := am H
                   clear H
                   go_wp2
                   go_roundg k5
                   case measure => have := HJ8.out; have := HJ43.out; have := HJ105.out; have := HK4.out; have := HK5.out; omega
                   case rel => exact ⟨(wrap64 (x22_4 + 1)), (by first | rfl | (simp; done) | (simp [*]; done)), H', ⟨by have := HJ8.out; have := HJ43.out; have := HJ105.out; have := HK4.out; have := HK5.out; omega⟩, ⟨by (with_reducible repeat (first | apply Kd.R_alloc | apply Kd.R_drewN | apply Kd.R_drew)); exact HO_20.out⟩, ⟨by (with_reducible repeat (first | apply Kd.R_alloc | apply Kd.R_drewN | apply Kd.R_drew)); exact HO_21.out⟩, ⟨bB BK509.out⟩, ⟨bB BK528.out⟩, ⟨bB BK529.out⟩, ⟨bB BK538.out⟩, ⟨bB BK558.out⟩, ⟨bB BK567.out⟩, ⟨sB HB.out⟩⟩
               ·rw [if_neg c190] at H
                have c190b0 : decide (x22_4 < 22) = false := decide_eq_false c190
                clear c190
                obtain rfl := Option.some.inj H
                go_wp2
                go_ret
                exact lf (sB HB.out)
            ·replace c185 := bF c185
             subst c185
             replace H := hF H
             obtain rfl := Option.some.inj H
             go_wp2_with (first | ((with_reducible refine gate_callee (f := 18) rfl ?_); refine gL (some 172) Try.func18 #[.slice A0 l0.length c0] ?_; (with_reducible refine (spec_DrawIsWithinGrants.calls kj105 _ _ l0 t575 t576 _ ?side1 ?side2 A183.out).mono ?_); (case side1 => exact cB ((Kd.C_below HR0.out HB.out))); (case side2 => exact HC0.out); rintro e w212 ⟨v577, v579, rfl, ho0, ho1, hb⟩; refine ⟨_, rfl, ?_⟩; have n0_ := am (Kd.R_lower (Kd.R_newB (Kd.R_newB (Kd.R_newB (Kd.R_newB ho0 (bB BK528.out)) (bB BK538.out)) (bB BK558.out)) (bB BK567.out)) (below_size (sB HB.out))); have n1_ := am (Kd.R_lower (Kd.R_newB (Kd.R_newB (Kd.R_newB (Kd.R_newB ho1 (bB BK528.out)) (bB BK538.out)) (bB BK558.out)) (bB BK567.out)) (below_size (sB HB.out))); have n2_ := am (Kb (bB BK509.out) hb); have n3_ := am (Kb (bB BK528.out) hb); have n4_ := am (Kb (bB BK529.out) hb); have n5_ := am (Kb (bB BK538.out) hb); have n6_ := am (Kb (bB BK558.out) hb); have n7_ := am (Kb (bB BK567.out) hb); have n8_ := am (Kh (sB HB.out) hb); clear BK509; clear BK528; clear BK529; clear BK538; clear BK558; clear BK567; clear HB; have HO578 := n0_; have HO580 := n1_; have BK509 := n2_; have BK528 := n3_; have BK529 := n4_; have BK538 := n5_; have BK558 := n6_; have BK567 := n7_; have HB := n8_; clear n0_ n1_ n2_ n3_ n4_ n5_ n6_ n7_ n8_; (try clear hb); (try clear ho0); (try clear ho1); obtain ⟨Ao213, co213, eo213⟩ := Kd.R_slice HO578.out; subst eo213; obtain ⟨Ao214, co214, eo214⟩ := Kd.R_slice HO580.out; subst eo214) | ((with_reducible refine gate_callee (f := 13) rfl ?_); refine gL (some 177) Try.func13 #[.slice Ao213 t575.length co213, .slice Ao214 t576.length co214] ?_; (with_reducible refine (impl_IsWithinGrants.calls kj105 _ _ t575 _ _ t576 false _ ?side1 ?side2 ?side3 ?side4 A184.out).mono ?_); (case side1 => exact cB ((Kq HO578.out).2.2)); (case side2 => exact (Kq HO578.out).2.1); (case side3 => exact cB ((Kq HO580.out).2.2)); (case side4 => exact (Kq HO580.out).2.1); rintro e w215 ⟨rfl, hb⟩; refine ⟨_, rfl, ?_⟩; replace HO578 := am (Ko (rB HO578.out) hb); replace HO580 := am (Ko (rB HO580.out) hb); replace BK509 := am (Kb (bB BK509.out) hb); replace BK528 := am (Kb (bB BK528.out) hb); replace BK529 := am (Kb (bB BK529.out) hb); replace BK538 := am (Kb (bB BK538.out) hb); replace BK558 := am (Kb (bB BK558.out) hb); replace BK567 := am (Kb (bB BK567.out) hb); replace HB := am (Kh (sB HB.out) hb); (try clear hb)))
             go_ret
             exact lf (sB HB.out)

/-- THE ONE PURE STATEMENT of laws_FnNarrowed: yours. -/
def laws_FnNarrowed.Pure : Prop := ∀ (l0 : List Int), l0.length ≤ maxLen → l0.length * 1 ≤ 140737488351232 → (∀ x ∈ l0, (Lit.int .u8 x).wf = true) → ∃ k, laws_FnNarrowed.f k l0 = some true
theorem laws_FnNarrowed.walk (P : laws_FnNarrowed.Pure) (a0 : Option Addr) (len0 cap0 : Nat) (z0 : List Int) (w : World) (w0 : (a0 = none ∧ len0 = 0 ∧ cap0 = 0 ∧ z0 = []) ∨ ∃ x, a0 = some x ∧ len0 ≤ cap0 ∧ cap0 ≤ maxLen ∧ z0.length = cap0 ∧ (∀ i, i < z0.length → w.cell? (x.add i) = some (.int .u8 (z0.getD i 0))) ∧ ∀ n ∈ z0, (Lit.int .u8 n).wf = true) (y0 : len0 * 1 ≤ 140737488351232) :
  Calls Try.prog 3 #[.slice a0 len0 cap0] w fun e w' => e = .returned (.bool true) ∧ Below w.heap.size w w' := by
 obtain ⟨l0, rfl, hr0, hm0, hw0, hc0⟩ := ReadsInt.ofRowC w0
 obtain ⟨k, h⟩ := P l0 hm0 y0 hw0
 refine (laws_FnNarrowed.calls k _ _ l0 true w (Kd.C_of_reads (d := (0 : Int)) (h1 := fun _ => rfl) hr0) hc0 h rfl).mono ?_
 rintro e w' ⟨rfl, hd⟩
 exact ⟨rfl, hd⟩

end Go.Proofs.Ytilneejgliglhaa.QN
