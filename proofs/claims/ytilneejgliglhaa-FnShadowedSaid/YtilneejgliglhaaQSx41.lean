/- Go functions as Lean functions, each with its walk; printed by a program of this session (a scratch copy of print.py that follows nested field addresses and tells a law for the answer true). -/
import Derived.Test.YtilneejgliglhaaQSx0
import Derived.Test.YtilneejgliglhaaQSx39
import Derived.Test.YtilneejgliglhaaQSxM0
namespace Go.Proofs.Ytilneejgliglhaa.QS
open Go.RowKit Go.Proofs.YtilneejgliglhaaW.PrintWords Go.Proofs.YtilneejgliglhaaW.PrintLast Go.Proofs.YtilneejgliglhaaW.PrintMore Go.Proofs.Ytilneejgliglhaa.Short
attribute [local go_sem] max2_int min2_int max_two min_two max_three min_three max_four min_four   -- for this text's walks alone
set_option linter.unusedVariables false
set_option linter.unusedSimpArgs false

/-! ### spec_DecideRule: function 22 -/
def spec_DecideRule.l0 : Nat → List (S84) → Int → Int → Int → Int → Int → Option (Int)
 | 0, _, _, _, _, _, _ => none
 | k + 1, x0, x5, x6, x381000, x381001, x381002 => if x6 < (x0.length : Int) then (if 0 ≤ x6 then ((spec_Applies.f ((rd_T84 x0 x6).f0) ((rd_T84 x0 x6).f1) ((rd_T84 x0 x6).f2.f0) ((rd_T84 x0 x6).f2.f1) ((rd_T84 x0 x6).f3) ((rd_T84 x0 x6).f4) ((rd_T84 x0 x6).f5.f0) ((rd_T84 x0 x6).f5.f1) x381000 x381001 x381002).bind fun t382 => (if t382 = true then (if x5 < 0 then (spec_DecideRule.l0 k x0 x6 (wrap64 (x6 + 1)) x381000 x381001 x381002) else (if 0 ≤ x5 then (if x5 < (x0.length : Int) then ((spec_IsBefore.f ((rd_T84 x0 x6).f0) ((rd_T84 x0 x6).f1) ((rd_T84 x0 x6).f2.f0) ((rd_T84 x0 x6).f2.f1) ((rd_T84 x0 x6).f3) ((rd_T84 x0 x6).f4) ((rd_T84 x0 x6).f5.f0) ((rd_T84 x0 x6).f5.f1) ((rd_T84 x0 x5).f0) ((rd_T84 x0 x5).f1) ((rd_T84 x0 x5).f2.f0) ((rd_T84 x0 x5).f2.f1) ((rd_T84 x0 x5).f3) ((rd_T84 x0 x5).f4) ((rd_T84 x0 x5).f5.f0) ((rd_T84 x0 x5).f5.f1)).bind fun t385 => (if t385 = true then (spec_DecideRule.l0 k x0 x6 (wrap64 (x6 + 1)) x381000 x381001 x381002) else (spec_DecideRule.l0 k x0 x5 (wrap64 (x6 + 1)) x381000 x381001 x381002))) else (none)) else (none))) else (spec_DecideRule.l0 k x0 x5 (wrap64 (x6 + 1)) x381000 x381001 x381002))) else (none)) else (some x5)
def spec_DecideRule.f (k : Nat) (l0 : List (S84)) (a1_0 : Int) (a1_1 : Int) (a1_2 : Int) : Option (Int) := spec_DecideRule.l0 k l0 (-1) 0 a1_0 a1_1 a1_2
def spec_DecideRule.T5 : Bool × List (List Nat × List Nat) := (true, [([], []), ([], []), ([0, 1], [0, 1]), ([2], [2]), ([], []), ([3, 4], [3, 4]), ([5, 5], [5]), ([6], [6]), ([7, 6], [6, 7]), ([8, 6, 6], [6, 8]), ([9], [9]), ([9], [9]), ([10, 11, 9], [9, 10, 11]), ([12, 9], [9, 12]), ([9], [9]), ([9], [9]), ([14, 15, 9], [9, 14, 15]), ([16, 9], [9, 16]), ([13, 17, 9, 9], [9, 13, 17]), ([9, 18, 6], [6, 9, 18]), ([6, 19], [6, 19])])
def spec_DecideRule.B5 : List Nat := [0, 0, 3, 7, 0, 31, 63, 127, 255, 511, 1023, 1023, 4095, 8191, 1023, 1023, 50175, 115711, 262143, 524287, 1048575]
theorem spec_DecideRule.tab5 : rtab .any (opsOf Try.f22 5) = spec_DecideRule.T5 := by kernel_rfl
theorem spec_DecideRule.bits5 : waitsOk spec_DecideRule.T5.2 spec_DecideRule.B5 = true := by kernel_rfl
set_option maxHeartbeats 8000000 in
set_option maxRecDepth 100000 in
theorem spec_DecideRule.calls (k : Nat) (A0 : Option Addr) (c0 : Nat) (l0 : List (S84)) (a1_0 : Int) (a1_1 : Int) (a1_2 : Int) (r : Int) (w : World) (hr0 : Kd.C k84 w A0 l0.length l0) (hc0 : l0.length ≤ c0) (h : spec_DecideRule.f k l0 a1_0 a1_1 a1_2 = some r) :
  Calls Try.prog 22 #[.slice A0 l0.length c0, .agg #[.int .i64 a1_0, .int .i64 a1_1, .int .i64 a1_2]] w fun e w' => e = .returned (.int .i64 r) ∧ Below w.heap.size w w' := by
 have hu50 := Try.underlying50
 have hu84 := Try.underlying84
 have HR0 := Aside0.mk hr0
 have HC0 := Aside0.mk hc0
 clear hr0 hc0
 have HB := am (Below.refl w.heap.size w)
 have H : (spec_DecideRule.l0 k l0 (-1) 0 a1_0 a1_1 a1_2) = some r := h
 clear h
 have H' := Aside0.mk H
 clear H
 go_enter Try.func22, Try.ntmps22
 go_wp2_with (first | ((with_reducible refine gate_dst (N := 3) rfl ?_); refine box_event ?hg (N := 3) ?hd (cs := #[.int .i64 a1_0, .int .i64 a1_1, .int .i64 a1_2]) (t := 50) ?hr ?_; (case hd => rfl); (case hg => rfl); (case hr => first | (go_simp; done) | (go_simp; rfl)); intro gb380 hg w3 hbox hb; have q_ := hbx_ (sB HB.out) hg hb; have n0_ := q_.1; have n1_ := am (hbox); have n2_ := q_.2; have n3_ := n2_; clear HB; have HB := n0_; have BK380 := n1_; have GW380 := n2_; have GE380 := n3_; clear n0_ n1_ n2_ n3_ hb hbox hg))
 go_loopg [5, 6] k (fun kq v5 v6 w' => ∃ (x5_1 : Int) (x6_1 : Int), v5 = .int .i64 x5_1 ∧ v6 = .int .i64 x6_1 ∧ Aside0 (spec_DecideRule.l0 kq l0 x5_1 x6_1 a1_0 a1_1 a1_2 = some r) ∧ Aside0 (kq ≤ k) ∧ Aside0 (w'.heap[gb380]? = some (.cells #[.int .i64 a1_0, .int .i64 a1_1, .int .i64 a1_2] 50 (0, 0))) ∧ Aside0 (Below w.heap.size w w'))
 case atStart => exact ⟨((-1)), (0), (by first | rfl | (simp; done) | (simp [*]; done)), (by first | rfl | (simp; done) | (simp [*]; done)), H', ⟨Nat.le_refl _⟩, ⟨bB BK380.out⟩, ⟨sB HB.out⟩⟩
 case round =>
  clear H'
  try clear c2
  try clear p2
  obtain ⟨x5_1, x6_1, rfl, rfl, HA, HK1, BK380, HB⟩ := hrel
  cases gk with
  | zero => exact absurd HA.out (by simp [spec_DecideRule.l0])
  | succ k1 =>
   have H := HA.out
   clear HA
   simp only [spec_DecideRule.l0] at H
   by_cases c4 : x6_1 < (l0.length : Int)
   ·rw [if_pos c4] at H
    have c4b0 : decide (x6_1 < (l0.length : Int)) = true := decide_eq_true c4
    clear c4
    by_cases c5 : 0 ≤ x6_1
    ·rw [if_pos c5] at H
     have c5b0 : decide (0 ≤ x6_1) = true := decide_eq_true c5
     clear c5
     replace H := Option.bind_eq_some_iff.mp H
     obtain ⟨t382, A60, H⟩ := H
     replace H : (if t382 = true then (if x5_1 < 0 then (spec_DecideRule.l0 k1 l0 x6_1 (wrap64 (x6_1 + 1)) a1_0 a1_1 a1_2) else (if 0 ≤ x5_1 then (if x5_1 < (l0.length : Int) then ((spec_IsBefore.f ((rd_T84 l0 x6_1).f0) ((rd_T84 l0 x6_1).f1) ((rd_T84 l0 x6_1).f2.f0) ((rd_T84 l0 x6_1).f2.f1) ((rd_T84 l0 x6_1).f3) ((rd_T84 l0 x6_1).f4) ((rd_T84 l0 x6_1).f5.f0) ((rd_T84 l0 x6_1).f5.f1) ((rd_T84 l0 x5_1).f0) ((rd_T84 l0 x5_1).f1) ((rd_T84 l0 x5_1).f2.f0) ((rd_T84 l0 x5_1).f2.f1) ((rd_T84 l0 x5_1).f3) ((rd_T84 l0 x5_1).f4) ((rd_T84 l0 x5_1).f5.f0) ((rd_T84 l0 x5_1).f5.f1)).bind fun t385 => (if t385 = true then (spec_DecideRule.l0 k1 l0 x6_1 (wrap64 (x6_1 + 1)) a1_0 a1_1 a1_2) else (spec_DecideRule.l0 k1 l0 x5_1 (wrap64 (x6_1 + 1)) a1_0 a1_1 a1_2))) else (none)) else (none))) else (spec_DecideRule.l0 k1 l0 x5_1 (wrap64 (x6_1 + 1)) a1_0 a1_1 a1_2)) = some r := H
     have A6 := Aside0.mk A60
     clear A60
     by_cases c7 : t382 = true
     ·subst c7
      have H1 : (if x5_1 < 0 then (spec_DecideRule.l0 k1 l0 x6_1 (wrap64 (x6_1 + 1)) a1_0 a1_1 a1_2) else (if 0 ≤ x5_1 then (if x5_1 < (l0.length : Int) then ((spec_IsBefore.f ((rd_T84 l0 x6_1).f0) ((rd_T84 l0 x6_1).f1) ((rd_T84 l0 x6_1).f2.f0) ((rd_T84 l0 x6_1).f2.f1) ((rd_T84 l0 x6_1).f3) ((rd_T84 l0 x6_1).f4) ((rd_T84 l0 x6_1).f5.f0) ((rd_T84 l0 x6_1).f5.f1) ((rd_T84 l0 x5_1).f0) ((rd_T84 l0 x5_1).f1) ((rd_T84 l0 x5_1).f2.f0) ((rd_T84 l0 x5_1).f2.f1) ((rd_T84 l0 x5_1).f3) ((rd_T84 l0 x5_1).f4) ((rd_T84 l0 x5_1).f5.f0) ((rd_T84 l0 x5_1).f5.f1)).bind fun t385 => (if t385 = true then (spec_DecideRule.l0 k1 l0 x6_1 (wrap64 (x6_1 + 1)) a1_0 a1_1 a1_2) else (spec_DecideRule.l0 k1 l0 x5_1 (wrap64 (x6_1 + 1)) a1_0 a1_1 a1_2))) else (none)) else (none))) = some r := by rw [if_pos rfl] at H; exact H
      clear H
      have H := H1
      clear H1
      by_cases c8 : x5_1 < 0
      ·rw [if_pos c8] at H
       have c8b0 : decide (x5_1 < 0) = true := decide_eq_true c8
       clear c8
       have H' := Aside0.mk H
       clear H
       try go_wp2
       replace BK380 := am (blk_drew BK380.out)
       replace HB := am (below_drew1 HB.out)
       have p381 : 0 ≤ (x6_1 : Int) := of_decide_eq_true (by first | (with_reducible assumption) | assumption)
       have q381 : x6_1 < (l0.length : Int) := of_decide_eq_true (by first | (with_reducible assumption) | assumption)
       obtain ⟨ad381, e381, hx381_0, hx381_1, hx381_2, hx381_3, hx381_4, hx381_5, hx381_6, hx381_7⟩ := at_T84 HR0.out x6_1 p381 q381
       have hw381_7 := hx381_7
       have hw381_6 := hx381_6
       have hw381_5 := hx381_5
       have hw381_4 := hx381_4
       have hw381_3 := hx381_3
       have hw381_2 := hx381_2
       have hw381_1 := hx381_1
       have hw381_0 := hx381_0
       cases e381
       replace hx381_0 := hc_ HB hx381_0
       replace hx381_1 := hc_ HB hx381_1
       replace hx381_2 := hc_ HB hx381_2
       replace hx381_3 := hc_ HB hx381_3
       replace hx381_4 := hc_ HB hx381_4
       replace hx381_5 := hc_ HB hx381_5
       replace hx381_6 := hc_ HB hx381_6
       replace hx381_7 := hc_ HB hx381_7
       replace p381 := eq_true p381
       replace q381 := eq_true q381
       refine start_ (n := 21) (S := fun w' => w'.cell? ⟨gb380, 0, none⟩ = some (.int .i64 a1_0) ∧ w'.cell? ⟨gb380, 1, none⟩ = some (.int .i64 a1_1) ∧ w'.cell? ⟨gb380, 2, none⟩ = some (.int .i64 a1_2) ∧ w'.cell? (ad381.add ((x6_1).toNat * 8)) = some (.int .i64 ((rd_T84 l0 x6_1).f0)) ∧ w'.cell? ⟨(ad381.add ((x6_1).toNat * 8)).block, (ad381.add ((x6_1).toNat * 8)).off + 1, none⟩ = some (.int .i64 ((rd_T84 l0 x6_1).f1)) ∧ w'.cell? ⟨(ad381.add ((x6_1).toNat * 8)).block, (ad381.add ((x6_1).toNat * 8)).off + 2, none⟩ = some (.int .i64 ((rd_T84 l0 x6_1).f2.f0)) ∧ w'.cell? ⟨(ad381.add ((x6_1).toNat * 8)).block, (ad381.add ((x6_1).toNat * 8)).off + 3, none⟩ = some (.int .i64 ((rd_T84 l0 x6_1).f2.f1)) ∧ w'.cell? ⟨(ad381.add ((x6_1).toNat * 8)).block, (ad381.add ((x6_1).toNat * 8)).off + 4, none⟩ = some (.int .i64 ((rd_T84 l0 x6_1).f3)) ∧ w'.cell? ⟨(ad381.add ((x6_1).toNat * 8)).block, (ad381.add ((x6_1).toNat * 8)).off + 5, none⟩ = some (.int .i64 ((rd_T84 l0 x6_1).f4)) ∧ w'.cell? ⟨(ad381.add ((x6_1).toNat * 8)).block, (ad381.add ((x6_1).toNat * 8)).off + 6, none⟩ = some (.int .i64 ((rd_T84 l0 x6_1).f5.f0)) ∧ w'.cell? ⟨(ad381.add ((x6_1).toNat * 8)).block, (ad381.add ((x6_1).toNat * 8)).off + 7, none⟩ = some (.int .i64 ((rd_T84 l0 x6_1).f5.f1))) (ds := []) #[z,z,z,z,z,z,z,z,z,z,z,z,z,z,z,z,z,z,z,z,z] (by kernel_rfl) rfl rfl ⟨(blk_cell BK380.out 0).trans rfl, (blk_cell BK380.out 1).trans rfl, (blk_cell BK380.out 2).trans rfl, (hc_ HB hw381_0), (hc_ HB hw381_1), (hc_ HB hw381_2), (hc_ HB hw381_3), (hc_ HB hw381_4), (hc_ HB hw381_5), (hc_ HB hw381_6), (hc_ HB hw381_7)⟩ (fun hHeld => ?_); refine with_tabW spec_DecideRule.tab5 spec_DecideRule.bits5 (fun HT_ HW_ => ?_)
       generalize wr.drew = w9 at BK380 HB hx381_0 hx381_1 hx381_2 hx381_3 hx381_4 hx381_5 hx381_6 hx381_7 hHeld ⊢
       refine pure_ (i := 0) (N := some 13) (v := ?_) (a' := ?_) #[o,z,z,z,z,z,z,z,z,z,z,z,z,z,z,z,z,z,z,z,z] rfl rfl (any_of HT_.out (by kernel_rfl)) (fun _ _ _ h => h) (Or.inl ⟨by rfl, ?_⟩) ?_ ?_
       rotate_left
       ·intro w'
        go_simp
        with_reducible rfl
       rotate_left
       ·simp only [Act.put, qa, qb, qc, i64_w, i32_w]
        rfl
       refine pure_ (i := 1) (N := some 14) (v := ?_) (a' := ?_) #[o,o,z,z,z,z,z,z,z,z,z,z,z,z,z,z,z,z,z,z,z] rfl rfl (any_of HT_.out (by kernel_rfl)) (fun _ _ _ h => h) (Or.inl ⟨by rfl, ?_⟩) ?_ ?_
       rotate_left
       ·intro w'
        go_simp
        with_reducible rfl
       rotate_left
       ·simp only [Act.put, qa, qb, qc, i64_w, i32_w]
        rfl
       refine pure_ (i := 2) (N := some 15) (v := ?_) (a' := ?_) #[o,o,o,z,z,z,z,z,z,z,z,z,z,z,z,z,z,z,z,z,z] rfl rfl (any_of HT_.out (by kernel_rfl)) (fun _ _ _ h => h) (Or.inl ⟨by rfl, ?_⟩) ?_ ?_
       rotate_left
       ·intro w'
        go_simp
        with_reducible rfl
       rotate_left
       ·simp only [Act.put, qa, qb, qc, i64_w, i32_w]
        rfl
       refine take_ (i := 3) (N := some 16) (v := ?_) (a' := ?_) #[o,o,o,o,z,z,z,z,z,z,z,z,z,z,z,z,z,z,z,z,z] rfl rfl (take_ofW HT_.out HW_.out (by kernel_rfl)) (fun _ _ _ h => h) (Or.inl ⟨by rfl, ?_⟩) hHeld ?_ ?_
       rotate_left
       ·rintro w' ⟨s0, s1, s2, s3, s4, s5, s6, s7, s8, s9, s10⟩
        go_simp
        with_reducible rfl
       rotate_left
       ·simp only [Act.put, qa, qb, qc, i64_w, i32_w]
        rfl
       refine take_ (i := 4) (N := some 17) (v := ?_) (a' := ?_) #[o,o,o,o,o,z,z,z,z,z,z,z,z,z,z,z,z,z,z,z,z] rfl rfl (take_ofW HT_.out HW_.out (by kernel_rfl)) (fun _ _ _ h => h) (Or.inl ⟨by rfl, ?_⟩) hHeld ?_ ?_
       rotate_left
       ·rintro w' ⟨s0, s1, s2, s3, s4, s5, s6, s7, s8, s9, s10⟩
        go_simp
        with_reducible rfl
       rotate_left
       ·simp only [Act.put, qa, qb, qc, i64_w, i32_w]
        rfl
       refine one_ (i := 5) (N := some 18) #[o,o,o,o,o,o,z,z,z,z,z,z,z,z,z,z,z,z,z,z,z] rfl rfl (one_of HT_.out (by kernel_rfl)) (by decide) (fun K hK => ?_)
       refine goes_ Try.func54 (by kernel_rfl) rfl #[.agg #[.int .i64 ((rd_T84 l0 x6_1).f0), .int .i64 ((rd_T84 l0 x6_1).f1), .int .i64 ((rd_T84 l0 x6_1).f2.f0), .int .i64 ((rd_T84 l0 x6_1).f2.f1), .int .i64 ((rd_T84 l0 x6_1).f3), .int .i64 ((rd_T84 l0 x6_1).f4), .int .i64 ((rd_T84 l0 x6_1).f5.f0), .int .i64 ((rd_T84 l0 x6_1).f5.f1)], .agg #[.int .i64 a1_0, .int .i64 a1_1, .int .i64 a1_2]] (by rfl) rfl rfl (by (try simp only [List.map_toArray, List.map_cons, List.map_nil]); first | done | rfl | (simp only [List.length_drop, List.length_take]; rfl)) ?_
       with_reducible refine (spec_Applies.calls ((rd_T84 l0 x6_1).f0) ((rd_T84 l0 x6_1).f1) ((rd_T84 l0 x6_1).f2.f0) ((rd_T84 l0 x6_1).f2.f1) ((rd_T84 l0 x6_1).f3) ((rd_T84 l0 x6_1).f4) ((rd_T84 l0 x6_1).f5.f0) ((rd_T84 l0 x6_1).f5.f1) a1_0 a1_1 a1_2 true _ A6.out).mono ?_
       rintro e w10 ⟨rfl, hb⟩
       refine ⟨_, rfl, ?_⟩
       replace BK380 := am (blk_below (bB BK380.out) hb)
       replace HB := am (below_step (sB HB.out) hb)
       (try clear hb)
       (try clear hb2)
       (try clear hk)
       (try clear hi)
       refine hK.out _ _ ⟨(blk_cell BK380.out 0).trans rfl, (blk_cell BK380.out 1).trans rfl, (blk_cell BK380.out 2).trans rfl, (hc_ HB hw381_0), (hc_ HB hw381_1), (hc_ HB hw381_2), (hc_ HB hw381_3), (hc_ HB hw381_4), (hc_ HB hw381_5), (hc_ HB hw381_6), (hc_ HB hw381_7)⟩ (fun hHeld => ?_)
       clear hK K
       refine norm_ (a' := ?_) ?_ ?_
       rotate_left
       ·show Act.put _ (some 18) _ = _
        simp only [Act.put, qa, qb, qc, i64_w, i32_w]
        rfl
       refine pure_ (i := 6) (N := some 19) (v := ?_) (a' := ?_) #[o,o,o,o,o,o,o,z,z,z,z,z,z,z,z,z,z,z,z,z,z] rfl rfl (any_of HT_.out (by kernel_rfl)) (fun _ _ _ h => h) (Or.inl ⟨by rfl, ?_⟩) ?_ ?_
       rotate_left
       ·intro w'
        go_simp
        with_reducible rfl
       rotate_left
       ·simp only [Act.put, qa, qb, qc, i64_w, i32_w]
        rfl
       refine pure_ (i := 7) (N := some 20) (v := ?_) (a' := ?_) #[o,o,o,o,o,o,o,o,z,z,z,z,z,z,z,z,z,z,z,z,z] rfl rfl (any_of HT_.out (by kernel_rfl)) (fun _ _ _ h => h) (Or.inl ⟨by rfl, ?_⟩) ?_ ?_
       rotate_left
       ·intro w'
        go_simp
        with_reducible rfl
       rotate_left
       ·simp only [Act.put, qa, qb, qc, i64_w, i32_w]
        rfl
       refine pure_ (i := 8) (N := some 21) (v := ?_) (a' := ?_) #[o,o,o,o,o,o,o,o,o,z,z,z,z,z,z,z,z,z,z,z,z] rfl rfl (any_of HT_.out (by kernel_rfl)) (fun _ _ _ h => h) (Or.inl ⟨by rfl, ?_⟩) ?_ ?_
       rotate_left
       ·intro w'
        go_simp
        with_reducible rfl
       rotate_left
       ·simp only [Act.put, qa, qb, qc, i64_w, i32_w]
        rfl
       refine pure_ (i := 9) (N := some 22) (v := ?_) (a' := ?_) #[o,o,o,o,o,o,o,o,o,o,z,z,z,z,z,z,z,z,z,z,z] rfl rfl (any_of HT_.out (by kernel_rfl)) (fun _ _ _ h => h) (Or.inl ⟨by rfl, ?_⟩) ?_ ?_
       rotate_left
       ·intro w'
        go_simp
        with_reducible rfl
       rotate_left
       ·simp only [Act.put, qa, qb, qc, i64_w, i32_w]
        rfl
       refine pure_ (i := 10) (N := some 23) (v := undef) (a' := ?_) #[o,o,o,o,o,o,o,o,o,o,o,z,z,z,z,z,z,z,z,z,z] rfl rfl (any_of HT_.out (by kernel_rfl)) (fun _ _ _ h => h) (Or.inr ⟨by rfl, rfl⟩) ?_ ?_
       rotate_left
       ·simp only [Act.put, qa, qb, qc, i64_w, i32_w]
        rfl
       refine pure_ (i := 11) (N := some 24) (v := undef) (a' := ?_) #[o,o,o,o,o,o,o,o,o,o,o,o,z,z,z,z,z,z,z,z,z] rfl rfl (any_of HT_.out (by kernel_rfl)) (fun _ _ _ h => h) (Or.inr ⟨by rfl, rfl⟩) ?_ ?_
       rotate_left
       ·simp only [Act.put, qa, qb, qc, i64_w, i32_w]
        rfl
       refine pure_ (i := 12) (N := some 25) (v := undef) (a' := ?_) #[o,o,o,o,o,o,o,o,o,o,o,o,o,z,z,z,z,z,z,z,z] rfl rfl (any_of HT_.out (by kernel_rfl)) (fun _ _ _ h => h) (Or.inr ⟨by rfl, rfl⟩) ?_ ?_
       rotate_left
       ·simp only [Act.put, qa, qb, qc, i64_w, i32_w]
        rfl
       refine pure_ (i := 13) (N := some 26) (v := undef) (a' := ?_) #[o,o,o,o,o,o,o,o,o,o,o,o,o,o,z,z,z,z,z,z,z] rfl rfl (any_of HT_.out (by kernel_rfl)) (fun _ _ _ h => h) (Or.inr ⟨by rfl, rfl⟩) ?_ ?_
       rotate_left
       ·simp only [Act.put, qa, qb, qc, i64_w, i32_w]
        rfl
       refine pure_ (i := 14) (N := some 27) (v := undef) (a' := ?_) #[o,o,o,o,o,o,o,o,o,o,o,o,o,o,o,z,z,z,z,z,z] rfl rfl (any_of HT_.out (by kernel_rfl)) (fun _ _ _ h => h) (Or.inr ⟨by rfl, rfl⟩) ?_ ?_
       rotate_left
       ·simp only [Act.put, qa, qb, qc, i64_w, i32_w]
        rfl
       refine pure_ (i := 15) (N := some 28) (v := undef) (a' := ?_) #[o,o,o,o,o,o,o,o,o,o,o,o,o,o,o,o,z,z,z,z,z] rfl rfl (any_of HT_.out (by kernel_rfl)) (fun _ _ _ h => h) (Or.inr ⟨by rfl, rfl⟩) ?_ ?_
       rotate_left
       ·simp only [Act.put, qa, qb, qc, i64_w, i32_w]
        rfl
       refine pure_ (i := 16) (N := some 29) (v := undef) (a' := ?_) #[o,o,o,o,o,o,o,o,o,o,o,o,o,o,o,o,o,z,z,z,z] rfl rfl (any_of HT_.out (by kernel_rfl)) (fun _ _ _ h => h) (Or.inr ⟨by rfl, rfl⟩) ?_ ?_
       rotate_left
       ·simp only [Act.put, qa, qb, qc, i64_w, i32_w]
        rfl
       refine pure_ (i := 17) (N := some 30) (v := undef) (a' := ?_) #[o,o,o,o,o,o,o,o,o,o,o,o,o,o,o,o,o,o,z,z,z] rfl rfl (any_of HT_.out (by kernel_rfl)) (fun _ _ _ h => h) (Or.inr ⟨by rfl, rfl⟩) ?_ ?_
       rotate_left
       ·simp only [Act.put, qa, qb, qc, i64_w, i32_w]
        rfl
       refine pure_ (i := 18) (N := some 31) (v := undef) (a' := ?_) #[o,o,o,o,o,o,o,o,o,o,o,o,o,o,o,o,o,o,o,z,z] rfl rfl (any_of HT_.out (by kernel_rfl)) (fun _ _ _ h => h) (Or.inr ⟨by rfl, rfl⟩) ?_ ?_
       rotate_left
       ·simp only [Act.put, qa, qb, qc, i64_w, i32_w]
        rfl
       refine pure_ (i := 19) (N := some 32) (v := ?_) (a' := ?_) #[o,o,o,o,o,o,o,o,o,o,o,o,o,o,o,o,o,o,o,o,z] rfl rfl (any_of HT_.out (by kernel_rfl)) (fun _ _ _ h => h) (Or.inl ⟨by rfl, ?_⟩) ?_ ?_
       rotate_left
       ·intro w'
        go_simp
        with_reducible rfl
       rotate_left
       ·simp only [Act.put, qa, qb, qc, i64_w, i32_w]
        rfl
       refine pure_ (i := 20) (N := some 33) (v := ?_) (a' := ?_) #[o,o,o,o,o,o,o,o,o,o,o,o,o,o,o,o,o,o,o,o,o] rfl rfl (any_of HT_.out (by kernel_rfl)) (fun _ _ _ h => h) (Or.inl ⟨by rfl, ?_⟩) ?_ ?_
       rotate_left
       ·intro w'
        go_simp
        with_reducible rfl
       rotate_left
       ·simp only [Act.put, qa, qb, qc, i64_w, i32_w]
        rfl
       refine done_ (done_of HT_.out (by kernel_rfl)) ?_
       try go_wp2
       go_roundg k1
       case measure => have := HK1.out; omega
       case rel => exact ⟨(x6_1), (wrap64 (x6_1 + 1)), (by first | rfl | (simp; done) | (simp [*]; done)), (by first | rfl | (simp; done) | (simp [*]; done)), H', ⟨by have := HK1.out; omega⟩, ⟨bB BK380.out⟩, ⟨sB HB.out⟩⟩
      ·rw [if_neg c8] at H
       have c8b0 : decide (x5_1 < 0) = false := decide_eq_false c8
       clear c8
       by_cases c11 : 0 ≤ x5_1
       ·rw [if_pos c11] at H
        have c11b0 : decide (0 ≤ x5_1) = true := decide_eq_true c11
        clear c11
        by_cases c12 : x5_1 < (l0.length : Int)
        ·rw [if_pos c12] at H
         have c12b0 : decide (x5_1 < (l0.length : Int)) = true := decide_eq_true c12
         clear c12
         replace H := Option.bind_eq_some_iff.mp H
         obtain ⟨t385, A130, H⟩ := H
         replace H : (if t385 = true then (spec_DecideRule.l0 k1 l0 x6_1 (wrap64 (x6_1 + 1)) a1_0 a1_1 a1_2) else (spec_DecideRule.l0 k1 l0 x5_1 (wrap64 (x6_1 + 1)) a1_0 a1_1 a1_2)) = some r := H
         have A13 := Aside0.mk A130
         clear A130
         by_cases c14 : t385 = true
         ·subst c14
          have H1 : (spec_DecideRule.l0 k1 l0 x6_1 (wrap64 (x6_1 + 1)) a1_0 a1_1 a1_2) = some r := by rw [if_pos rfl] at H; exact H
          clear H
          have H := H1
          clear H1
          have H' := Aside0.mk H
          clear H
          try go_wp2
          replace BK380 := am (blk_drew BK380.out)
          replace HB := am (below_drew1 HB.out)
          have p381 : 0 ≤ (x6_1 : Int) := of_decide_eq_true (by first | (with_reducible assumption) | assumption)
          have q381 : x6_1 < (l0.length : Int) := of_decide_eq_true (by first | (with_reducible assumption) | assumption)
          obtain ⟨ad381, e381, hx381_0, hx381_1, hx381_2, hx381_3, hx381_4, hx381_5, hx381_6, hx381_7⟩ := at_T84 HR0.out x6_1 p381 q381
          have hw381_7 := hx381_7
          have hw381_6 := hx381_6
          have hw381_5 := hx381_5
          have hw381_4 := hx381_4
          have hw381_3 := hx381_3
          have hw381_2 := hx381_2
          have hw381_1 := hx381_1
          have hw381_0 := hx381_0
          cases e381
          replace hx381_0 := hc_ HB hx381_0
          replace hx381_1 := hc_ HB hx381_1
          replace hx381_2 := hc_ HB hx381_2
          replace hx381_3 := hc_ HB hx381_3
          replace hx381_4 := hc_ HB hx381_4
          replace hx381_5 := hc_ HB hx381_5
          replace hx381_6 := hc_ HB hx381_6
          replace hx381_7 := hc_ HB hx381_7
          replace p381 := eq_true p381
          replace q381 := eq_true q381
          have p383 : 0 ≤ (x6_1 : Int) := of_decide_eq_true (by first | (with_reducible assumption) | assumption)
          have q383 : x6_1 < (l0.length : Int) := of_decide_eq_true (by first | (with_reducible assumption) | assumption)
          obtain ⟨ad383, e383, hx383_0, hx383_1, hx383_2, hx383_3, hx383_4, hx383_5, hx383_6, hx383_7⟩ := at_T84 HR0.out x6_1 p383 q383
          have hw383_7 := hx383_7
          have hw383_6 := hx383_6
          have hw383_5 := hx383_5
          have hw383_4 := hx383_4
          have hw383_3 := hx383_3
          have hw383_2 := hx383_2
          have hw383_1 := hx383_1
          have hw383_0 := hx383_0
          obtain rfl : ad381 = ad383 := (by injection e383)
          replace hx383_0 := hc_ HB hx383_0
          replace hx383_1 := hc_ HB hx383_1
          replace hx383_2 := hc_ HB hx383_2
          replace hx383_3 := hc_ HB hx383_3
          replace hx383_4 := hc_ HB hx383_4
          replace hx383_5 := hc_ HB hx383_5
          replace hx383_6 := hc_ HB hx383_6
          replace hx383_7 := hc_ HB hx383_7
          replace p383 := eq_true p383
          replace q383 := eq_true q383
          have p384 : 0 ≤ (x5_1 : Int) := of_decide_eq_true (by first | (with_reducible assumption) | assumption)
          have q384 : x5_1 < (l0.length : Int) := of_decide_eq_true (by first | (with_reducible assumption) | assumption)
          obtain ⟨ad384, e384, hx384_0, hx384_1, hx384_2, hx384_3, hx384_4, hx384_5, hx384_6, hx384_7⟩ := at_T84 HR0.out x5_1 p384 q384
          have hw384_7 := hx384_7
          have hw384_6 := hx384_6
          have hw384_5 := hx384_5
          have hw384_4 := hx384_4
          have hw384_3 := hx384_3
          have hw384_2 := hx384_2
          have hw384_1 := hx384_1
          have hw384_0 := hx384_0
          obtain rfl : ad381 = ad384 := (by injection e384)
          replace hx384_0 := hc_ HB hx384_0
          replace hx384_1 := hc_ HB hx384_1
          replace hx384_2 := hc_ HB hx384_2
          replace hx384_3 := hc_ HB hx384_3
          replace hx384_4 := hc_ HB hx384_4
          replace hx384_5 := hc_ HB hx384_5
          replace hx384_6 := hc_ HB hx384_6
          replace hx384_7 := hc_ HB hx384_7
          replace p384 := eq_true p384
          replace q384 := eq_true q384
          refine start_ (n := 21) (S := fun w' => w'.cell? ⟨gb380, 0, none⟩ = some (.int .i64 a1_0) ∧ w'.cell? ⟨gb380, 1, none⟩ = some (.int .i64 a1_1) ∧ w'.cell? ⟨gb380, 2, none⟩ = some (.int .i64 a1_2) ∧ w'.cell? (ad381.add ((x6_1).toNat * 8)) = some (.int .i64 ((rd_T84 l0 x6_1).f0)) ∧ w'.cell? ⟨(ad381.add ((x6_1).toNat * 8)).block, (ad381.add ((x6_1).toNat * 8)).off + 1, none⟩ = some (.int .i64 ((rd_T84 l0 x6_1).f1)) ∧ w'.cell? ⟨(ad381.add ((x6_1).toNat * 8)).block, (ad381.add ((x6_1).toNat * 8)).off + 2, none⟩ = some (.int .i64 ((rd_T84 l0 x6_1).f2.f0)) ∧ w'.cell? ⟨(ad381.add ((x6_1).toNat * 8)).block, (ad381.add ((x6_1).toNat * 8)).off + 3, none⟩ = some (.int .i64 ((rd_T84 l0 x6_1).f2.f1)) ∧ w'.cell? ⟨(ad381.add ((x6_1).toNat * 8)).block, (ad381.add ((x6_1).toNat * 8)).off + 4, none⟩ = some (.int .i64 ((rd_T84 l0 x6_1).f3)) ∧ w'.cell? ⟨(ad381.add ((x6_1).toNat * 8)).block, (ad381.add ((x6_1).toNat * 8)).off + 5, none⟩ = some (.int .i64 ((rd_T84 l0 x6_1).f4)) ∧ w'.cell? ⟨(ad381.add ((x6_1).toNat * 8)).block, (ad381.add ((x6_1).toNat * 8)).off + 6, none⟩ = some (.int .i64 ((rd_T84 l0 x6_1).f5.f0)) ∧ w'.cell? ⟨(ad381.add ((x6_1).toNat * 8)).block, (ad381.add ((x6_1).toNat * 8)).off + 7, none⟩ = some (.int .i64 ((rd_T84 l0 x6_1).f5.f1)) ∧ w'.cell? (ad381.add ((x6_1).toNat * 8)) = some (.int .i64 ((rd_T84 l0 x6_1).f0)) ∧ w'.cell? ⟨(ad381.add ((x6_1).toNat * 8)).block, (ad381.add ((x6_1).toNat * 8)).off + 1, none⟩ = some (.int .i64 ((rd_T84 l0 x6_1).f1)) ∧ w'.cell? ⟨(ad381.add ((x6_1).toNat * 8)).block, (ad381.add ((x6_1).toNat * 8)).off + 2, none⟩ = some (.int .i64 ((rd_T84 l0 x6_1).f2.f0)) ∧ w'.cell? ⟨(ad381.add ((x6_1).toNat * 8)).block, (ad381.add ((x6_1).toNat * 8)).off + 3, none⟩ = some (.int .i64 ((rd_T84 l0 x6_1).f2.f1)) ∧ w'.cell? ⟨(ad381.add ((x6_1).toNat * 8)).block, (ad381.add ((x6_1).toNat * 8)).off + 4, none⟩ = some (.int .i64 ((rd_T84 l0 x6_1).f3)) ∧ w'.cell? ⟨(ad381.add ((x6_1).toNat * 8)).block, (ad381.add ((x6_1).toNat * 8)).off + 5, none⟩ = some (.int .i64 ((rd_T84 l0 x6_1).f4)) ∧ w'.cell? ⟨(ad381.add ((x6_1).toNat * 8)).block, (ad381.add ((x6_1).toNat * 8)).off + 6, none⟩ = some (.int .i64 ((rd_T84 l0 x6_1).f5.f0)) ∧ w'.cell? ⟨(ad381.add ((x6_1).toNat * 8)).block, (ad381.add ((x6_1).toNat * 8)).off + 7, none⟩ = some (.int .i64 ((rd_T84 l0 x6_1).f5.f1)) ∧ w'.cell? (ad381.add ((x5_1).toNat * 8)) = some (.int .i64 ((rd_T84 l0 x5_1).f0)) ∧ w'.cell? ⟨(ad381.add ((x5_1).toNat * 8)).block, (ad381.add ((x5_1).toNat * 8)).off + 1, none⟩ = some (.int .i64 ((rd_T84 l0 x5_1).f1)) ∧ w'.cell? ⟨(ad381.add ((x5_1).toNat * 8)).block, (ad381.add ((x5_1).toNat * 8)).off + 2, none⟩ = some (.int .i64 ((rd_T84 l0 x5_1).f2.f0)) ∧ w'.cell? ⟨(ad381.add ((x5_1).toNat * 8)).block, (ad381.add ((x5_1).toNat * 8)).off + 3, none⟩ = some (.int .i64 ((rd_T84 l0 x5_1).f2.f1)) ∧ w'.cell? ⟨(ad381.add ((x5_1).toNat * 8)).block, (ad381.add ((x5_1).toNat * 8)).off + 4, none⟩ = some (.int .i64 ((rd_T84 l0 x5_1).f3)) ∧ w'.cell? ⟨(ad381.add ((x5_1).toNat * 8)).block, (ad381.add ((x5_1).toNat * 8)).off + 5, none⟩ = some (.int .i64 ((rd_T84 l0 x5_1).f4)) ∧ w'.cell? ⟨(ad381.add ((x5_1).toNat * 8)).block, (ad381.add ((x5_1).toNat * 8)).off + 6, none⟩ = some (.int .i64 ((rd_T84 l0 x5_1).f5.f0)) ∧ w'.cell? ⟨(ad381.add ((x5_1).toNat * 8)).block, (ad381.add ((x5_1).toNat * 8)).off + 7, none⟩ = some (.int .i64 ((rd_T84 l0 x5_1).f5.f1))) (ds := []) #[z,z,z,z,z,z,z,z,z,z,z,z,z,z,z,z,z,z,z,z,z] (by kernel_rfl) rfl rfl ⟨(blk_cell BK380.out 0).trans rfl, (blk_cell BK380.out 1).trans rfl, (blk_cell BK380.out 2).trans rfl, (hc_ HB hw381_0), (hc_ HB hw381_1), (hc_ HB hw381_2), (hc_ HB hw381_3), (hc_ HB hw381_4), (hc_ HB hw381_5), (hc_ HB hw381_6), (hc_ HB hw381_7), (hc_ HB hw383_0), (hc_ HB hw383_1), (hc_ HB hw383_2), (hc_ HB hw383_3), (hc_ HB hw383_4), (hc_ HB hw383_5), (hc_ HB hw383_6), (hc_ HB hw383_7), (hc_ HB hw384_0), (hc_ HB hw384_1), (hc_ HB hw384_2), (hc_ HB hw384_3), (hc_ HB hw384_4), (hc_ HB hw384_5), (hc_ HB hw384_6), (hc_ HB hw384_7)⟩ (fun hHeld => ?_); refine with_tabW spec_DecideRule.tab5 spec_DecideRule.bits5 (fun HT_ HW_ => ?_)
          generalize wr.drew = w15 at BK380 HB hx381_0 hx381_1 hx381_2 hx381_3 hx381_4 hx381_5 hx381_6 hx381_7 hx383_0 hx383_1 hx383_2 hx383_3 hx383_4 hx383_5 hx383_6 hx383_7 hx384_0 hx384_1 hx384_2 hx384_3 hx384_4 hx384_5 hx384_6 hx384_7 hHeld ⊢
          refine pure_ (i := 0) (N := some 13) (v := ?_) (a' := ?_) #[o,z,z,z,z,z,z,z,z,z,z,z,z,z,z,z,z,z,z,z,z] rfl rfl (any_of HT_.out (by kernel_rfl)) (fun _ _ _ h => h) (Or.inl ⟨by rfl, ?_⟩) ?_ ?_
          rotate_left
          ·intro w'
           go_simp
           with_reducible rfl
          rotate_left
          ·simp only [Act.put, qa, qb, qc, i64_w, i32_w]
           rfl
          refine pure_ (i := 1) (N := some 14) (v := ?_) (a' := ?_) #[o,o,z,z,z,z,z,z,z,z,z,z,z,z,z,z,z,z,z,z,z] rfl rfl (any_of HT_.out (by kernel_rfl)) (fun _ _ _ h => h) (Or.inl ⟨by rfl, ?_⟩) ?_ ?_
          rotate_left
          ·intro w'
           go_simp
           with_reducible rfl
          rotate_left
          ·simp only [Act.put, qa, qb, qc, i64_w, i32_w]
           rfl
          refine pure_ (i := 2) (N := some 15) (v := ?_) (a' := ?_) #[o,o,o,z,z,z,z,z,z,z,z,z,z,z,z,z,z,z,z,z,z] rfl rfl (any_of HT_.out (by kernel_rfl)) (fun _ _ _ h => h) (Or.inl ⟨by rfl, ?_⟩) ?_ ?_
          rotate_left
          ·intro w'
           go_simp
           with_reducible rfl
          rotate_left
          ·simp only [Act.put, qa, qb, qc, i64_w, i32_w]
           rfl
          refine take_ (i := 3) (N := some 16) (v := ?_) (a' := ?_) #[o,o,o,o,z,z,z,z,z,z,z,z,z,z,z,z,z,z,z,z,z] rfl rfl (take_ofW HT_.out HW_.out (by kernel_rfl)) (fun _ _ _ h => h) (Or.inl ⟨by rfl, ?_⟩) hHeld ?_ ?_
          rotate_left
          ·rintro w' ⟨s0, s1, s2, s3, s4, s5, s6, s7, s8, s9, s10, s11, s12, s13, s14, s15, s16, s17, s18, s19, s20, s21, s22, s23, s24, s25, s26⟩
           go_simp
           with_reducible rfl
          rotate_left
          ·simp only [Act.put, qa, qb, qc, i64_w, i32_w]
           rfl
          refine take_ (i := 4) (N := some 17) (v := ?_) (a' := ?_) #[o,o,o,o,o,z,z,z,z,z,z,z,z,z,z,z,z,z,z,z,z] rfl rfl (take_ofW HT_.out HW_.out (by kernel_rfl)) (fun _ _ _ h => h) (Or.inl ⟨by rfl, ?_⟩) hHeld ?_ ?_
          rotate_left
          ·rintro w' ⟨s0, s1, s2, s3, s4, s5, s6, s7, s8, s9, s10, s11, s12, s13, s14, s15, s16, s17, s18, s19, s20, s21, s22, s23, s24, s25, s26⟩
           go_simp
           with_reducible rfl
          rotate_left
          ·simp only [Act.put, qa, qb, qc, i64_w, i32_w]
           rfl
          refine one_ (i := 5) (N := some 18) #[o,o,o,o,o,o,z,z,z,z,z,z,z,z,z,z,z,z,z,z,z] rfl rfl (one_of HT_.out (by kernel_rfl)) (by decide) (fun K hK => ?_)
          refine goes_ Try.func54 (by kernel_rfl) rfl #[.agg #[.int .i64 ((rd_T84 l0 x6_1).f0), .int .i64 ((rd_T84 l0 x6_1).f1), .int .i64 ((rd_T84 l0 x6_1).f2.f0), .int .i64 ((rd_T84 l0 x6_1).f2.f1), .int .i64 ((rd_T84 l0 x6_1).f3), .int .i64 ((rd_T84 l0 x6_1).f4), .int .i64 ((rd_T84 l0 x6_1).f5.f0), .int .i64 ((rd_T84 l0 x6_1).f5.f1)], .agg #[.int .i64 a1_0, .int .i64 a1_1, .int .i64 a1_2]] (by rfl) rfl rfl (by (try simp only [List.map_toArray, List.map_cons, List.map_nil]); first | done | rfl | (simp only [List.length_drop, List.length_take]; rfl)) ?_
          with_reducible refine (spec_Applies.calls ((rd_T84 l0 x6_1).f0) ((rd_T84 l0 x6_1).f1) ((rd_T84 l0 x6_1).f2.f0) ((rd_T84 l0 x6_1).f2.f1) ((rd_T84 l0 x6_1).f3) ((rd_T84 l0 x6_1).f4) ((rd_T84 l0 x6_1).f5.f0) ((rd_T84 l0 x6_1).f5.f1) a1_0 a1_1 a1_2 true _ A6.out).mono ?_
          rintro e w16 ⟨rfl, hb⟩
          refine ⟨_, rfl, ?_⟩
          replace BK380 := am (blk_below (bB BK380.out) hb)
          replace HB := am (below_step (sB HB.out) hb)
          (try clear hb)
          (try clear hb2)
          (try clear hk)
          (try clear hi)
          refine hK.out _ _ ⟨(blk_cell BK380.out 0).trans rfl, (blk_cell BK380.out 1).trans rfl, (blk_cell BK380.out 2).trans rfl, (hc_ HB hw381_0), (hc_ HB hw381_1), (hc_ HB hw381_2), (hc_ HB hw381_3), (hc_ HB hw381_4), (hc_ HB hw381_5), (hc_ HB hw381_6), (hc_ HB hw381_7), (hc_ HB hw383_0), (hc_ HB hw383_1), (hc_ HB hw383_2), (hc_ HB hw383_3), (hc_ HB hw383_4), (hc_ HB hw383_5), (hc_ HB hw383_6), (hc_ HB hw383_7), (hc_ HB hw384_0), (hc_ HB hw384_1), (hc_ HB hw384_2), (hc_ HB hw384_3), (hc_ HB hw384_4), (hc_ HB hw384_5), (hc_ HB hw384_6), (hc_ HB hw384_7)⟩ (fun hHeld => ?_)
          clear hK K
          refine norm_ (a' := ?_) ?_ ?_
          rotate_left
          ·show Act.put _ (some 18) _ = _
           simp only [Act.put, qa, qb, qc, i64_w, i32_w]
           rfl
          refine pure_ (i := 6) (N := some 19) (v := ?_) (a' := ?_) #[o,o,o,o,o,o,o,z,z,z,z,z,z,z,z,z,z,z,z,z,z] rfl rfl (any_of HT_.out (by kernel_rfl)) (fun _ _ _ h => h) (Or.inl ⟨by rfl, ?_⟩) ?_ ?_
          rotate_left
          ·intro w'
           go_simp
           with_reducible rfl
          rotate_left
          ·simp only [Act.put, qa, qb, qc, i64_w, i32_w]
           rfl
          refine pure_ (i := 7) (N := some 20) (v := ?_) (a' := ?_) #[o,o,o,o,o,o,o,o,z,z,z,z,z,z,z,z,z,z,z,z,z] rfl rfl (any_of HT_.out (by kernel_rfl)) (fun _ _ _ h => h) (Or.inl ⟨by rfl, ?_⟩) ?_ ?_
          rotate_left
          ·intro w'
           go_simp
           with_reducible rfl
          rotate_left
          ·simp only [Act.put, qa, qb, qc, i64_w, i32_w]
           rfl
          refine pure_ (i := 8) (N := some 21) (v := ?_) (a' := ?_) #[o,o,o,o,o,o,o,o,o,z,z,z,z,z,z,z,z,z,z,z,z] rfl rfl (any_of HT_.out (by kernel_rfl)) (fun _ _ _ h => h) (Or.inl ⟨by rfl, ?_⟩) ?_ ?_
          rotate_left
          ·intro w'
           go_simp
           with_reducible rfl
          rotate_left
          ·simp only [Act.put, qa, qb, qc, i64_w, i32_w]
           rfl
          refine pure_ (i := 9) (N := some 22) (v := ?_) (a' := ?_) #[o,o,o,o,o,o,o,o,o,o,z,z,z,z,z,z,z,z,z,z,z] rfl rfl (any_of HT_.out (by kernel_rfl)) (fun _ _ _ h => h) (Or.inl ⟨by rfl, ?_⟩) ?_ ?_
          rotate_left
          ·intro w'
           go_simp
           with_reducible rfl
          rotate_left
          ·simp only [Act.put, qa, qb, qc, i64_w, i32_w]
           rfl
          refine pure_ (i := 10) (N := some 23) (v := ?_) (a' := ?_) #[o,o,o,o,o,o,o,o,o,o,o,z,z,z,z,z,z,z,z,z,z] rfl rfl (any_of HT_.out (by kernel_rfl)) (fun _ _ _ h => h) (Or.inl ⟨by rfl, ?_⟩) ?_ ?_
          rotate_left
          ·intro w'
           go_simp
           with_reducible rfl
          rotate_left
          ·simp only [Act.put, qa, qb, qc, i64_w, i32_w]
           rfl
          refine pure_ (i := 11) (N := some 24) (v := ?_) (a' := ?_) #[o,o,o,o,o,o,o,o,o,o,o,o,z,z,z,z,z,z,z,z,z] rfl rfl (any_of HT_.out (by kernel_rfl)) (fun _ _ _ h => h) (Or.inl ⟨by rfl, ?_⟩) ?_ ?_
          rotate_left
          ·intro w'
           go_simp
           with_reducible rfl
          rotate_left
          ·simp only [Act.put, qa, qb, qc, i64_w, i32_w]
           rfl
          refine pure_ (i := 12) (N := some 25) (v := ?_) (a' := ?_) #[o,o,o,o,o,o,o,o,o,o,o,o,o,z,z,z,z,z,z,z,z] rfl rfl (any_of HT_.out (by kernel_rfl)) (fun _ _ _ h => h) (Or.inl ⟨by rfl, ?_⟩) ?_ ?_
          rotate_left
          ·intro w'
           go_simp
           with_reducible rfl
          rotate_left
          ·simp only [Act.put, qa, qb, qc, i64_w, i32_w]
           rfl
          refine pure_ (i := 14) (N := some 27) (v := ?_) (a' := ?_) #[o,o,o,o,o,o,o,o,o,o,o,o,o,z,o,z,z,z,z,z,z] rfl rfl (any_of HT_.out (by kernel_rfl)) (fun _ _ _ h => h) (Or.inl ⟨by rfl, ?_⟩) ?_ ?_
          rotate_left
          ·intro w'
           go_simp
           with_reducible rfl
          rotate_left
          ·simp only [Act.put, qa, qb, qc, i64_w, i32_w]
           rfl
          refine pure_ (i := 15) (N := some 28) (v := ?_) (a' := ?_) #[o,o,o,o,o,o,o,o,o,o,o,o,o,z,o,o,z,z,z,z,z] rfl rfl (any_of HT_.out (by kernel_rfl)) (fun _ _ _ h => h) (Or.inl ⟨by rfl, ?_⟩) ?_ ?_
          rotate_left
          ·intro w'
           go_simp
           with_reducible rfl
          rotate_left
          ·simp only [Act.put, qa, qb, qc, i64_w, i32_w]
           rfl
          refine pure_ (i := 16) (N := some 29) (v := ?_) (a' := ?_) #[o,o,o,o,o,o,o,o,o,o,o,o,o,z,o,o,o,z,z,z,z] rfl rfl (any_of HT_.out (by kernel_rfl)) (fun _ _ _ h => h) (Or.inl ⟨by rfl, ?_⟩) ?_ ?_
          rotate_left
          ·intro w'
           go_simp
           with_reducible rfl
          rotate_left
          ·simp only [Act.put, qa, qb, qc, i64_w, i32_w]
           rfl
          refine take_ (i := 13) (N := some 26) (v := ?_) (a' := ?_) #[o,o,o,o,o,o,o,o,o,o,o,o,o,o,o,o,o,z,z,z,z] rfl rfl (take_ofW HT_.out HW_.out (by kernel_rfl)) (fun _ _ _ h => h) (Or.inl ⟨by rfl, ?_⟩) hHeld ?_ ?_
          rotate_left
          ·rintro w' ⟨s0, s1, s2, s3, s4, s5, s6, s7, s8, s9, s10, s11, s12, s13, s14, s15, s16, s17, s18, s19, s20, s21, s22, s23, s24, s25, s26⟩
           go_simp
           with_reducible rfl
          rotate_left
          ·simp only [Act.put, qa, qb, qc, i64_w, i32_w]
           rfl
          refine take_ (i := 17) (N := some 30) (v := ?_) (a' := ?_) #[o,o,o,o,o,o,o,o,o,o,o,o,o,o,o,o,o,o,z,z,z] rfl rfl (take_ofW HT_.out HW_.out (by kernel_rfl)) (fun _ _ _ h => h) (Or.inl ⟨by rfl, ?_⟩) hHeld ?_ ?_
          rotate_left
          ·rintro w' ⟨s0, s1, s2, s3, s4, s5, s6, s7, s8, s9, s10, s11, s12, s13, s14, s15, s16, s17, s18, s19, s20, s21, s22, s23, s24, s25, s26⟩
           go_simp
           with_reducible rfl
          rotate_left
          ·simp only [Act.put, qa, qb, qc, i64_w, i32_w]
           rfl
          refine one_ (i := 18) (N := some 31) #[o,o,o,o,o,o,o,o,o,o,o,o,o,o,o,o,o,o,o,z,z] rfl rfl (one_of HT_.out (by kernel_rfl)) (by decide) (fun K hK => ?_)
          refine goes_ Try.func55 (by kernel_rfl) rfl #[.agg #[.int .i64 ((rd_T84 l0 x6_1).f0), .int .i64 ((rd_T84 l0 x6_1).f1), .int .i64 ((rd_T84 l0 x6_1).f2.f0), .int .i64 ((rd_T84 l0 x6_1).f2.f1), .int .i64 ((rd_T84 l0 x6_1).f3), .int .i64 ((rd_T84 l0 x6_1).f4), .int .i64 ((rd_T84 l0 x6_1).f5.f0), .int .i64 ((rd_T84 l0 x6_1).f5.f1)], .agg #[.int .i64 ((rd_T84 l0 x5_1).f0), .int .i64 ((rd_T84 l0 x5_1).f1), .int .i64 ((rd_T84 l0 x5_1).f2.f0), .int .i64 ((rd_T84 l0 x5_1).f2.f1), .int .i64 ((rd_T84 l0 x5_1).f3), .int .i64 ((rd_T84 l0 x5_1).f4), .int .i64 ((rd_T84 l0 x5_1).f5.f0), .int .i64 ((rd_T84 l0 x5_1).f5.f1)]] (by rfl) rfl rfl (by (try simp only [List.map_toArray, List.map_cons, List.map_nil]); first | done | rfl | (simp only [List.length_drop, List.length_take]; rfl)) ?_
          with_reducible refine (spec_IsBefore.calls ((rd_T84 l0 x6_1).f0) ((rd_T84 l0 x6_1).f1) ((rd_T84 l0 x6_1).f2.f0) ((rd_T84 l0 x6_1).f2.f1) ((rd_T84 l0 x6_1).f3) ((rd_T84 l0 x6_1).f4) ((rd_T84 l0 x6_1).f5.f0) ((rd_T84 l0 x6_1).f5.f1) ((rd_T84 l0 x5_1).f0) ((rd_T84 l0 x5_1).f1) ((rd_T84 l0 x5_1).f2.f0) ((rd_T84 l0 x5_1).f2.f1) ((rd_T84 l0 x5_1).f3) ((rd_T84 l0 x5_1).f4) ((rd_T84 l0 x5_1).f5.f0) ((rd_T84 l0 x5_1).f5.f1) true _ A13.out).mono ?_
          rintro e w17 ⟨rfl, hb⟩
          refine ⟨_, rfl, ?_⟩
          replace BK380 := am (blk_below (bB BK380.out) hb)
          replace HB := am (below_step (sB HB.out) hb)
          (try clear hb)
          (try clear hb2)
          (try clear hk)
          (try clear hi)
          refine hK.out _ _ ⟨(blk_cell BK380.out 0).trans rfl, (blk_cell BK380.out 1).trans rfl, (blk_cell BK380.out 2).trans rfl, (hc_ HB hw381_0), (hc_ HB hw381_1), (hc_ HB hw381_2), (hc_ HB hw381_3), (hc_ HB hw381_4), (hc_ HB hw381_5), (hc_ HB hw381_6), (hc_ HB hw381_7), (hc_ HB hw383_0), (hc_ HB hw383_1), (hc_ HB hw383_2), (hc_ HB hw383_3), (hc_ HB hw383_4), (hc_ HB hw383_5), (hc_ HB hw383_6), (hc_ HB hw383_7), (hc_ HB hw384_0), (hc_ HB hw384_1), (hc_ HB hw384_2), (hc_ HB hw384_3), (hc_ HB hw384_4), (hc_ HB hw384_5), (hc_ HB hw384_6), (hc_ HB hw384_7)⟩ (fun hHeld => ?_)
          clear hK K
          refine norm_ (a' := ?_) ?_ ?_
          rotate_left
          ·show Act.put _ (some 31) _ = _
           simp only [Act.put, qa, qb, qc, i64_w, i32_w]
           rfl
          refine pure_ (i := 19) (N := some 32) (v := ?_) (a' := ?_) #[o,o,o,o,o,o,o,o,o,o,o,o,o,o,o,o,o,o,o,o,z] rfl rfl (any_of HT_.out (by kernel_rfl)) (fun _ _ _ h => h) (Or.inl ⟨by rfl, ?_⟩) ?_ ?_
          rotate_left
          ·intro w'
           go_simp
           with_reducible rfl
          rotate_left
          ·simp only [Act.put, qa, qb, qc, i64_w, i32_w]
           rfl
          refine pure_ (i := 20) (N := some 33) (v := ?_) (a' := ?_) #[o,o,o,o,o,o,o,o,o,o,o,o,o,o,o,o,o,o,o,o,o] rfl rfl (any_of HT_.out (by kernel_rfl)) (fun _ _ _ h => h) (Or.inl ⟨by rfl, ?_⟩) ?_ ?_
          rotate_left
          ·intro w'
           go_simp
           with_reducible rfl
          rotate_left
          ·simp only [Act.put, qa, qb, qc, i64_w, i32_w]
           rfl
          refine done_ (done_of HT_.out (by kernel_rfl)) ?_
          try go_wp2
          go_roundg k1
          case measure => have := HK1.out; omega
          case rel => exact ⟨(x6_1), (wrap64 (x6_1 + 1)), (by first | rfl | (simp; done) | (simp [*]; done)), (by first | rfl | (simp; done) | (simp [*]; done)), H', ⟨by have := HK1.out; omega⟩, ⟨bB BK380.out⟩, ⟨sB HB.out⟩⟩
         ·replace c14 := Bool.eq_false_iff.mpr c14
          subst c14
          have H1 : (spec_DecideRule.l0 k1 l0 x5_1 (wrap64 (x6_1 + 1)) a1_0 a1_1 a1_2) = some r := by rw [if_neg (show ¬ (false = true) by decide)] at H; exact H
          clear H
          have H := H1
          clear H1
          have H' := Aside0.mk H
          clear H
          try go_wp2
          replace BK380 := am (blk_drew BK380.out)
          replace HB := am (below_drew1 HB.out)
          have p381 : 0 ≤ (x6_1 : Int) := of_decide_eq_true (by first | (with_reducible assumption) | assumption)
          have q381 : x6_1 < (l0.length : Int) := of_decide_eq_true (by first | (with_reducible assumption) | assumption)
          obtain ⟨ad381, e381, hx381_0, hx381_1, hx381_2, hx381_3, hx381_4, hx381_5, hx381_6, hx381_7⟩ := at_T84 HR0.out x6_1 p381 q381
          have hw381_7 := hx381_7
          have hw381_6 := hx381_6
          have hw381_5 := hx381_5
          have hw381_4 := hx381_4
          have hw381_3 := hx381_3
          have hw381_2 := hx381_2
          have hw381_1 := hx381_1
          have hw381_0 := hx381_0
          cases e381
          replace hx381_0 := hc_ HB hx381_0
          replace hx381_1 := hc_ HB hx381_1
          replace hx381_2 := hc_ HB hx381_2
          replace hx381_3 := hc_ HB hx381_3
          replace hx381_4 := hc_ HB hx381_4
          replace hx381_5 := hc_ HB hx381_5
          replace hx381_6 := hc_ HB hx381_6
          replace hx381_7 := hc_ HB hx381_7
          replace p381 := eq_true p381
          replace q381 := eq_true q381
          have p383 : 0 ≤ (x6_1 : Int) := of_decide_eq_true (by first | (with_reducible assumption) | assumption)
          have q383 : x6_1 < (l0.length : Int) := of_decide_eq_true (by first | (with_reducible assumption) | assumption)
          obtain ⟨ad383, e383, hx383_0, hx383_1, hx383_2, hx383_3, hx383_4, hx383_5, hx383_6, hx383_7⟩ := at_T84 HR0.out x6_1 p383 q383
          have hw383_7 := hx383_7
          have hw383_6 := hx383_6
          have hw383_5 := hx383_5
          have hw383_4 := hx383_4
          have hw383_3 := hx383_3
          have hw383_2 := hx383_2
          have hw383_1 := hx383_1
          have hw383_0 := hx383_0
          obtain rfl : ad381 = ad383 := (by injection e383)
          replace hx383_0 := hc_ HB hx383_0
          replace hx383_1 := hc_ HB hx383_1
          replace hx383_2 := hc_ HB hx383_2
          replace hx383_3 := hc_ HB hx383_3
          replace hx383_4 := hc_ HB hx383_4
          replace hx383_5 := hc_ HB hx383_5
          replace hx383_6 := hc_ HB hx383_6
          replace hx383_7 := hc_ HB hx383_7
          replace p383 := eq_true p383
          replace q383 := eq_true q383
          have p384 : 0 ≤ (x5_1 : Int) := of_decide_eq_true (by first | (with_reducible assumption) | assumption)
          have q384 : x5_1 < (l0.length : Int) := of_decide_eq_true (by first | (with_reducible assumption) | assumption)
          obtain ⟨ad384, e384, hx384_0, hx384_1, hx384_2, hx384_3, hx384_4, hx384_5, hx384_6, hx384_7⟩ := at_T84 HR0.out x5_1 p384 q384
          have hw384_7 := hx384_7
          have hw384_6 := hx384_6
          have hw384_5 := hx384_5
          have hw384_4 := hx384_4
          have hw384_3 := hx384_3
          have hw384_2 := hx384_2
          have hw384_1 := hx384_1
          have hw384_0 := hx384_0
          obtain rfl : ad381 = ad384 := (by injection e384)
          replace hx384_0 := hc_ HB hx384_0
          replace hx384_1 := hc_ HB hx384_1
          replace hx384_2 := hc_ HB hx384_2
          replace hx384_3 := hc_ HB hx384_3
          replace hx384_4 := hc_ HB hx384_4
          replace hx384_5 := hc_ HB hx384_5
          replace hx384_6 := hc_ HB hx384_6
          replace hx384_7 := hc_ HB hx384_7
          replace p384 := eq_true p384
          replace q384 := eq_true q384
          refine start_ (n := 21) (S := fun w' => w'.cell? ⟨gb380, 0, none⟩ = some (.int .i64 a1_0) ∧ w'.cell? ⟨gb380, 1, none⟩ = some (.int .i64 a1_1) ∧ w'.cell? ⟨gb380, 2, none⟩ = some (.int .i64 a1_2) ∧ w'.cell? (ad381.add ((x6_1).toNat * 8)) = some (.int .i64 ((rd_T84 l0 x6_1).f0)) ∧ w'.cell? ⟨(ad381.add ((x6_1).toNat * 8)).block, (ad381.add ((x6_1).toNat * 8)).off + 1, none⟩ = some (.int .i64 ((rd_T84 l0 x6_1).f1)) ∧ w'.cell? ⟨(ad381.add ((x6_1).toNat * 8)).block, (ad381.add ((x6_1).toNat * 8)).off + 2, none⟩ = some (.int .i64 ((rd_T84 l0 x6_1).f2.f0)) ∧ w'.cell? ⟨(ad381.add ((x6_1).toNat * 8)).block, (ad381.add ((x6_1).toNat * 8)).off + 3, none⟩ = some (.int .i64 ((rd_T84 l0 x6_1).f2.f1)) ∧ w'.cell? ⟨(ad381.add ((x6_1).toNat * 8)).block, (ad381.add ((x6_1).toNat * 8)).off + 4, none⟩ = some (.int .i64 ((rd_T84 l0 x6_1).f3)) ∧ w'.cell? ⟨(ad381.add ((x6_1).toNat * 8)).block, (ad381.add ((x6_1).toNat * 8)).off + 5, none⟩ = some (.int .i64 ((rd_T84 l0 x6_1).f4)) ∧ w'.cell? ⟨(ad381.add ((x6_1).toNat * 8)).block, (ad381.add ((x6_1).toNat * 8)).off + 6, none⟩ = some (.int .i64 ((rd_T84 l0 x6_1).f5.f0)) ∧ w'.cell? ⟨(ad381.add ((x6_1).toNat * 8)).block, (ad381.add ((x6_1).toNat * 8)).off + 7, none⟩ = some (.int .i64 ((rd_T84 l0 x6_1).f5.f1)) ∧ w'.cell? (ad381.add ((x6_1).toNat * 8)) = some (.int .i64 ((rd_T84 l0 x6_1).f0)) ∧ w'.cell? ⟨(ad381.add ((x6_1).toNat * 8)).block, (ad381.add ((x6_1).toNat * 8)).off + 1, none⟩ = some (.int .i64 ((rd_T84 l0 x6_1).f1)) ∧ w'.cell? ⟨(ad381.add ((x6_1).toNat * 8)).block, (ad381.add ((x6_1).toNat * 8)).off + 2, none⟩ = some (.int .i64 ((rd_T84 l0 x6_1).f2.f0)) ∧ w'.cell? ⟨(ad381.add ((x6_1).toNat * 8)).block, (ad381.add ((x6_1).toNat * 8)).off + 3, none⟩ = some (.int .i64 ((rd_T84 l0 x6_1).f2.f1)) ∧ w'.cell? ⟨(ad381.add ((x6_1).toNat * 8)).block, (ad381.add ((x6_1).toNat * 8)).off + 4, none⟩ = some (.int .i64 ((rd_T84 l0 x6_1).f3)) ∧ w'.cell? ⟨(ad381.add ((x6_1).toNat * 8)).block, (ad381.add ((x6_1).toNat * 8)).off + 5, none⟩ = some (.int .i64 ((rd_T84 l0 x6_1).f4)) ∧ w'.cell? ⟨(ad381.add ((x6_1).toNat * 8)).block, (ad381.add ((x6_1).toNat * 8)).off + 6, none⟩ = some (.int .i64 ((rd_T84 l0 x6_1).f5.f0)) ∧ w'.cell? ⟨(ad381.add ((x6_1).toNat * 8)).block, (ad381.add ((x6_1).toNat * 8)).off + 7, none⟩ = some (.int .i64 ((rd_T84 l0 x6_1).f5.f1)) ∧ w'.cell? (ad381.add ((x5_1).toNat * 8)) = some (.int .i64 ((rd_T84 l0 x5_1).f0)) ∧ w'.cell? ⟨(ad381.add ((x5_1).toNat * 8)).block, (ad381.add ((x5_1).toNat * 8)).off + 1, none⟩ = some (.int .i64 ((rd_T84 l0 x5_1).f1)) ∧ w'.cell? ⟨(ad381.add ((x5_1).toNat * 8)).block, (ad381.add ((x5_1).toNat * 8)).off + 2, none⟩ = some (.int .i64 ((rd_T84 l0 x5_1).f2.f0)) ∧ w'.cell? ⟨(ad381.add ((x5_1).toNat * 8)).block, (ad381.add ((x5_1).toNat * 8)).off + 3, none⟩ = some (.int .i64 ((rd_T84 l0 x5_1).f2.f1)) ∧ w'.cell? ⟨(ad381.add ((x5_1).toNat * 8)).block, (ad381.add ((x5_1).toNat * 8)).off + 4, none⟩ = some (.int .i64 ((rd_T84 l0 x5_1).f3)) ∧ w'.cell? ⟨(ad381.add ((x5_1).toNat * 8)).block, (ad381.add ((x5_1).toNat * 8)).off + 5, none⟩ = some (.int .i64 ((rd_T84 l0 x5_1).f4)) ∧ w'.cell? ⟨(ad381.add ((x5_1).toNat * 8)).block, (ad381.add ((x5_1).toNat * 8)).off + 6, none⟩ = some (.int .i64 ((rd_T84 l0 x5_1).f5.f0)) ∧ w'.cell? ⟨(ad381.add ((x5_1).toNat * 8)).block, (ad381.add ((x5_1).toNat * 8)).off + 7, none⟩ = some (.int .i64 ((rd_T84 l0 x5_1).f5.f1))) (ds := []) #[z,z,z,z,z,z,z,z,z,z,z,z,z,z,z,z,z,z,z,z,z] (by kernel_rfl) rfl rfl ⟨(blk_cell BK380.out 0).trans rfl, (blk_cell BK380.out 1).trans rfl, (blk_cell BK380.out 2).trans rfl, (hc_ HB hw381_0), (hc_ HB hw381_1), (hc_ HB hw381_2), (hc_ HB hw381_3), (hc_ HB hw381_4), (hc_ HB hw381_5), (hc_ HB hw381_6), (hc_ HB hw381_7), (hc_ HB hw383_0), (hc_ HB hw383_1), (hc_ HB hw383_2), (hc_ HB hw383_3), (hc_ HB hw383_4), (hc_ HB hw383_5), (hc_ HB hw383_6), (hc_ HB hw383_7), (hc_ HB hw384_0), (hc_ HB hw384_1), (hc_ HB hw384_2), (hc_ HB hw384_3), (hc_ HB hw384_4), (hc_ HB hw384_5), (hc_ HB hw384_6), (hc_ HB hw384_7)⟩ (fun hHeld => ?_); refine with_tabW spec_DecideRule.tab5 spec_DecideRule.bits5 (fun HT_ HW_ => ?_)
          generalize wr.drew = w18 at BK380 HB hx381_0 hx381_1 hx381_2 hx381_3 hx381_4 hx381_5 hx381_6 hx381_7 hx383_0 hx383_1 hx383_2 hx383_3 hx383_4 hx383_5 hx383_6 hx383_7 hx384_0 hx384_1 hx384_2 hx384_3 hx384_4 hx384_5 hx384_6 hx384_7 hHeld ⊢
          refine pure_ (i := 0) (N := some 13) (v := ?_) (a' := ?_) #[o,z,z,z,z,z,z,z,z,z,z,z,z,z,z,z,z,z,z,z,z] rfl rfl (any_of HT_.out (by kernel_rfl)) (fun _ _ _ h => h) (Or.inl ⟨by rfl, ?_⟩) ?_ ?_
          rotate_left
          ·intro w'
           go_simp
           with_reducible rfl
          rotate_left
          ·simp only [Act.put, qa, qb, qc, i64_w, i32_w]
           rfl
          refine pure_ (i := 1) (N := some 14) (v := ?_) (a' := ?_) #[o,o,z,z,z,z,z,z,z,z,z,z,z,z,z,z,z,z,z,z,z] rfl rfl (any_of HT_.out (by kernel_rfl)) (fun _ _ _ h => h) (Or.inl ⟨by rfl, ?_⟩) ?_ ?_
          rotate_left
          ·intro w'
           go_simp
           with_reducible rfl
          rotate_left
          ·simp only [Act.put, qa, qb, qc, i64_w, i32_w]
           rfl
          refine pure_ (i := 2) (N := some 15) (v := ?_) (a' := ?_) #[o,o,o,z,z,z,z,z,z,z,z,z,z,z,z,z,z,z,z,z,z] rfl rfl (any_of HT_.out (by kernel_rfl)) (fun _ _ _ h => h) (Or.inl ⟨by rfl, ?_⟩) ?_ ?_
          rotate_left
          ·intro w'
           go_simp
           with_reducible rfl
          rotate_left
          ·simp only [Act.put, qa, qb, qc, i64_w, i32_w]
           rfl
          refine take_ (i := 3) (N := some 16) (v := ?_) (a' := ?_) #[o,o,o,o,z,z,z,z,z,z,z,z,z,z,z,z,z,z,z,z,z] rfl rfl (take_ofW HT_.out HW_.out (by kernel_rfl)) (fun _ _ _ h => h) (Or.inl ⟨by rfl, ?_⟩) hHeld ?_ ?_
          rotate_left
          ·rintro w' ⟨s0, s1, s2, s3, s4, s5, s6, s7, s8, s9, s10, s11, s12, s13, s14, s15, s16, s17, s18, s19, s20, s21, s22, s23, s24, s25, s26⟩
           go_simp
           with_reducible rfl
          rotate_left
          ·simp only [Act.put, qa, qb, qc, i64_w, i32_w]
           rfl
          refine take_ (i := 4) (N := some 17) (v := ?_) (a' := ?_) #[o,o,o,o,o,z,z,z,z,z,z,z,z,z,z,z,z,z,z,z,z] rfl rfl (take_ofW HT_.out HW_.out (by kernel_rfl)) (fun _ _ _ h => h) (Or.inl ⟨by rfl, ?_⟩) hHeld ?_ ?_
          rotate_left
          ·rintro w' ⟨s0, s1, s2, s3, s4, s5, s6, s7, s8, s9, s10, s11, s12, s13, s14, s15, s16, s17, s18, s19, s20, s21, s22, s23, s24, s25, s26⟩
           go_simp
           with_reducible rfl
          rotate_left
          ·simp only [Act.put, qa, qb, qc, i64_w, i32_w]
           rfl
          refine one_ (i := 5) (N := some 18) #[o,o,o,o,o,o,z,z,z,z,z,z,z,z,z,z,z,z,z,z,z] rfl rfl (one_of HT_.out (by kernel_rfl)) (by decide) (fun K hK => ?_)
          refine goes_ Try.func54 (by kernel_rfl) rfl #[.agg #[.int .i64 ((rd_T84 l0 x6_1).f0), .int .i64 ((rd_T84 l0 x6_1).f1), .int .i64 ((rd_T84 l0 x6_1).f2.f0), .int .i64 ((rd_T84 l0 x6_1).f2.f1), .int .i64 ((rd_T84 l0 x6_1).f3), .int .i64 ((rd_T84 l0 x6_1).f4), .int .i64 ((rd_T84 l0 x6_1).f5.f0), .int .i64 ((rd_T84 l0 x6_1).f5.f1)], .agg #[.int .i64 a1_0, .int .i64 a1_1, .int .i64 a1_2]] (by rfl) rfl rfl (by (try simp only [List.map_toArray, List.map_cons, List.map_nil]); first | done | rfl | (simp only [List.length_drop, List.length_take]; rfl)) ?_
          with_reducible refine (spec_Applies.calls ((rd_T84 l0 x6_1).f0) ((rd_T84 l0 x6_1).f1) ((rd_T84 l0 x6_1).f2.f0) ((rd_T84 l0 x6_1).f2.f1) ((rd_T84 l0 x6_1).f3) ((rd_T84 l0 x6_1).f4) ((rd_T84 l0 x6_1).f5.f0) ((rd_T84 l0 x6_1).f5.f1) a1_0 a1_1 a1_2 true _ A6.out).mono ?_
          rintro e w19 ⟨rfl, hb⟩
          refine ⟨_, rfl, ?_⟩
          replace BK380 := am (blk_below (bB BK380.out) hb)
          replace HB := am (below_step (sB HB.out) hb)
          (try clear hb)
          (try clear hb2)
          (try clear hk)
          (try clear hi)
          refine hK.out _ _ ⟨(blk_cell BK380.out 0).trans rfl, (blk_cell BK380.out 1).trans rfl, (blk_cell BK380.out 2).trans rfl, (hc_ HB hw381_0), (hc_ HB hw381_1), (hc_ HB hw381_2), (hc_ HB hw381_3), (hc_ HB hw381_4), (hc_ HB hw381_5), (hc_ HB hw381_6), (hc_ HB hw381_7), (hc_ HB hw383_0), (hc_ HB hw383_1), (hc_ HB hw383_2), (hc_ HB hw383_3), (hc_ HB hw383_4), (hc_ HB hw383_5), (hc_ HB hw383_6), (hc_ HB hw383_7), (hc_ HB hw384_0), (hc_ HB hw384_1), (hc_ HB hw384_2), (hc_ HB hw384_3), (hc_ HB hw384_4), (hc_ HB hw384_5), (hc_ HB hw384_6), (hc_ HB hw384_7)⟩ (fun hHeld => ?_)
          clear hK K
          refine norm_ (a' := ?_) ?_ ?_
          rotate_left
          ·show Act.put _ (some 18) _ = _
           simp only [Act.put, qa, qb, qc, i64_w, i32_w]
           rfl
          refine pure_ (i := 6) (N := some 19) (v := ?_) (a' := ?_) #[o,o,o,o,o,o,o,z,z,z,z,z,z,z,z,z,z,z,z,z,z] rfl rfl (any_of HT_.out (by kernel_rfl)) (fun _ _ _ h => h) (Or.inl ⟨by rfl, ?_⟩) ?_ ?_
          rotate_left
          ·intro w'
           go_simp
           with_reducible rfl
          rotate_left
          ·simp only [Act.put, qa, qb, qc, i64_w, i32_w]
           rfl
          refine pure_ (i := 7) (N := some 20) (v := ?_) (a' := ?_) #[o,o,o,o,o,o,o,o,z,z,z,z,z,z,z,z,z,z,z,z,z] rfl rfl (any_of HT_.out (by kernel_rfl)) (fun _ _ _ h => h) (Or.inl ⟨by rfl, ?_⟩) ?_ ?_
          rotate_left
          ·intro w'
           go_simp
           with_reducible rfl
          rotate_left
          ·simp only [Act.put, qa, qb, qc, i64_w, i32_w]
           rfl
          refine pure_ (i := 8) (N := some 21) (v := ?_) (a' := ?_) #[o,o,o,o,o,o,o,o,o,z,z,z,z,z,z,z,z,z,z,z,z] rfl rfl (any_of HT_.out (by kernel_rfl)) (fun _ _ _ h => h) (Or.inl ⟨by rfl, ?_⟩) ?_ ?_
          rotate_left
          ·intro w'
           go_simp
           with_reducible rfl
          rotate_left
          ·simp only [Act.put, qa, qb, qc, i64_w, i32_w]
           rfl
          refine pure_ (i := 9) (N := some 22) (v := ?_) (a' := ?_) #[o,o,o,o,o,o,o,o,o,o,z,z,z,z,z,z,z,z,z,z,z] rfl rfl (any_of HT_.out (by kernel_rfl)) (fun _ _ _ h => h) (Or.inl ⟨by rfl, ?_⟩) ?_ ?_
          rotate_left
          ·intro w'
           go_simp
           with_reducible rfl
          rotate_left
          ·simp only [Act.put, qa, qb, qc, i64_w, i32_w]
           rfl
          refine pure_ (i := 10) (N := some 23) (v := ?_) (a' := ?_) #[o,o,o,o,o,o,o,o,o,o,o,z,z,z,z,z,z,z,z,z,z] rfl rfl (any_of HT_.out (by kernel_rfl)) (fun _ _ _ h => h) (Or.inl ⟨by rfl, ?_⟩) ?_ ?_
          rotate_left
          ·intro w'
           go_simp
           with_reducible rfl
          rotate_left
          ·simp only [Act.put, qa, qb, qc, i64_w, i32_w]
           rfl
          refine pure_ (i := 11) (N := some 24) (v := ?_) (a' := ?_) #[o,o,o,o,o,o,o,o,o,o,o,o,z,z,z,z,z,z,z,z,z] rfl rfl (any_of HT_.out (by kernel_rfl)) (fun _ _ _ h => h) (Or.inl ⟨by rfl, ?_⟩) ?_ ?_
          rotate_left
          ·intro w'
           go_simp
           with_reducible rfl
          rotate_left
          ·simp only [Act.put, qa, qb, qc, i64_w, i32_w]
           rfl
          refine pure_ (i := 12) (N := some 25) (v := ?_) (a' := ?_) #[o,o,o,o,o,o,o,o,o,o,o,o,o,z,z,z,z,z,z,z,z] rfl rfl (any_of HT_.out (by kernel_rfl)) (fun _ _ _ h => h) (Or.inl ⟨by rfl, ?_⟩) ?_ ?_
          rotate_left
          ·intro w'
           go_simp
           with_reducible rfl
          rotate_left
          ·simp only [Act.put, qa, qb, qc, i64_w, i32_w]
           rfl
          refine pure_ (i := 14) (N := some 27) (v := ?_) (a' := ?_) #[o,o,o,o,o,o,o,o,o,o,o,o,o,z,o,z,z,z,z,z,z] rfl rfl (any_of HT_.out (by kernel_rfl)) (fun _ _ _ h => h) (Or.inl ⟨by rfl, ?_⟩) ?_ ?_
          rotate_left
          ·intro w'
           go_simp
           with_reducible rfl
          rotate_left
          ·simp only [Act.put, qa, qb, qc, i64_w, i32_w]
           rfl
          refine pure_ (i := 15) (N := some 28) (v := ?_) (a' := ?_) #[o,o,o,o,o,o,o,o,o,o,o,o,o,z,o,o,z,z,z,z,z] rfl rfl (any_of HT_.out (by kernel_rfl)) (fun _ _ _ h => h) (Or.inl ⟨by rfl, ?_⟩) ?_ ?_
          rotate_left
          ·intro w'
           go_simp
           with_reducible rfl
          rotate_left
          ·simp only [Act.put, qa, qb, qc, i64_w, i32_w]
           rfl
          refine pure_ (i := 16) (N := some 29) (v := ?_) (a' := ?_) #[o,o,o,o,o,o,o,o,o,o,o,o,o,z,o,o,o,z,z,z,z] rfl rfl (any_of HT_.out (by kernel_rfl)) (fun _ _ _ h => h) (Or.inl ⟨by rfl, ?_⟩) ?_ ?_
          rotate_left
          ·intro w'
           go_simp
           with_reducible rfl
          rotate_left
          ·simp only [Act.put, qa, qb, qc, i64_w, i32_w]
           rfl
          refine take_ (i := 13) (N := some 26) (v := ?_) (a' := ?_) #[o,o,o,o,o,o,o,o,o,o,o,o,o,o,o,o,o,z,z,z,z] rfl rfl (take_ofW HT_.out HW_.out (by kernel_rfl)) (fun _ _ _ h => h) (Or.inl ⟨by rfl, ?_⟩) hHeld ?_ ?_
          rotate_left
          ·rintro w' ⟨s0, s1, s2, s3, s4, s5, s6, s7, s8, s9, s10, s11, s12, s13, s14, s15, s16, s17, s18, s19, s20, s21, s22, s23, s24, s25, s26⟩
           go_simp
           with_reducible rfl
          rotate_left
          ·simp only [Act.put, qa, qb, qc, i64_w, i32_w]
           rfl
          refine take_ (i := 17) (N := some 30) (v := ?_) (a' := ?_) #[o,o,o,o,o,o,o,o,o,o,o,o,o,o,o,o,o,o,z,z,z] rfl rfl (take_ofW HT_.out HW_.out (by kernel_rfl)) (fun _ _ _ h => h) (Or.inl ⟨by rfl, ?_⟩) hHeld ?_ ?_
          rotate_left
          ·rintro w' ⟨s0, s1, s2, s3, s4, s5, s6, s7, s8, s9, s10, s11, s12, s13, s14, s15, s16, s17, s18, s19, s20, s21, s22, s23, s24, s25, s26⟩
           go_simp
           with_reducible rfl
          rotate_left
          ·simp only [Act.put, qa, qb, qc, i64_w, i32_w]
           rfl
          refine one_ (i := 18) (N := some 31) #[o,o,o,o,o,o,o,o,o,o,o,o,o,o,o,o,o,o,o,z,z] rfl rfl (one_of HT_.out (by kernel_rfl)) (by decide) (fun K hK => ?_)
          refine goes_ Try.func55 (by kernel_rfl) rfl #[.agg #[.int .i64 ((rd_T84 l0 x6_1).f0), .int .i64 ((rd_T84 l0 x6_1).f1), .int .i64 ((rd_T84 l0 x6_1).f2.f0), .int .i64 ((rd_T84 l0 x6_1).f2.f1), .int .i64 ((rd_T84 l0 x6_1).f3), .int .i64 ((rd_T84 l0 x6_1).f4), .int .i64 ((rd_T84 l0 x6_1).f5.f0), .int .i64 ((rd_T84 l0 x6_1).f5.f1)], .agg #[.int .i64 ((rd_T84 l0 x5_1).f0), .int .i64 ((rd_T84 l0 x5_1).f1), .int .i64 ((rd_T84 l0 x5_1).f2.f0), .int .i64 ((rd_T84 l0 x5_1).f2.f1), .int .i64 ((rd_T84 l0 x5_1).f3), .int .i64 ((rd_T84 l0 x5_1).f4), .int .i64 ((rd_T84 l0 x5_1).f5.f0), .int .i64 ((rd_T84 l0 x5_1).f5.f1)]] (by rfl) rfl rfl (by (try simp only [List.map_toArray, List.map_cons, List.map_nil]); first | done | rfl | (simp only [List.length_drop, List.length_take]; rfl)) ?_
          with_reducible refine (spec_IsBefore.calls ((rd_T84 l0 x6_1).f0) ((rd_T84 l0 x6_1).f1) ((rd_T84 l0 x6_1).f2.f0) ((rd_T84 l0 x6_1).f2.f1) ((rd_T84 l0 x6_1).f3) ((rd_T84 l0 x6_1).f4) ((rd_T84 l0 x6_1).f5.f0) ((rd_T84 l0 x6_1).f5.f1) ((rd_T84 l0 x5_1).f0) ((rd_T84 l0 x5_1).f1) ((rd_T84 l0 x5_1).f2.f0) ((rd_T84 l0 x5_1).f2.f1) ((rd_T84 l0 x5_1).f3) ((rd_T84 l0 x5_1).f4) ((rd_T84 l0 x5_1).f5.f0) ((rd_T84 l0 x5_1).f5.f1) false _ A13.out).mono ?_
          rintro e w20 ⟨rfl, hb⟩
          refine ⟨_, rfl, ?_⟩
          replace BK380 := am (blk_below (bB BK380.out) hb)
          replace HB := am (below_step (sB HB.out) hb)
          (try clear hb)
          (try clear hb2)
          (try clear hk)
          (try clear hi)
          refine hK.out _ _ ⟨(blk_cell BK380.out 0).trans rfl, (blk_cell BK380.out 1).trans rfl, (blk_cell BK380.out 2).trans rfl, (hc_ HB hw381_0), (hc_ HB hw381_1), (hc_ HB hw381_2), (hc_ HB hw381_3), (hc_ HB hw381_4), (hc_ HB hw381_5), (hc_ HB hw381_6), (hc_ HB hw381_7), (hc_ HB hw383_0), (hc_ HB hw383_1), (hc_ HB hw383_2), (hc_ HB hw383_3), (hc_ HB hw383_4), (hc_ HB hw383_5), (hc_ HB hw383_6), (hc_ HB hw383_7), (hc_ HB hw384_0), (hc_ HB hw384_1), (hc_ HB hw384_2), (hc_ HB hw384_3), (hc_ HB hw384_4), (hc_ HB hw384_5), (hc_ HB hw384_6), (hc_ HB hw384_7)⟩ (fun hHeld => ?_)
          clear hK K
          refine norm_ (a' := ?_) ?_ ?_
          rotate_left
          ·show Act.put _ (some 31) _ = _
           simp only [Act.put, qa, qb, qc, i64_w, i32_w]
           rfl
          refine pure_ (i := 19) (N := some 32) (v := ?_) (a' := ?_) #[o,o,o,o,o,o,o,o,o,o,o,o,o,o,o,o,o,o,o,o,z] rfl rfl (any_of HT_.out (by kernel_rfl)) (fun _ _ _ h => h) (Or.inl ⟨by rfl, ?_⟩) ?_ ?_
          rotate_left
          ·intro w'
           go_simp
           with_reducible rfl
          rotate_left
          ·simp only [Act.put, qa, qb, qc, i64_w, i32_w]
           rfl
          refine pure_ (i := 20) (N := some 33) (v := ?_) (a' := ?_) #[o,o,o,o,o,o,o,o,o,o,o,o,o,o,o,o,o,o,o,o,o] rfl rfl (any_of HT_.out (by kernel_rfl)) (fun _ _ _ h => h) (Or.inl ⟨by rfl, ?_⟩) ?_ ?_
          rotate_left
          ·intro w'
           go_simp
           with_reducible rfl
          rotate_left
          ·simp only [Act.put, qa, qb, qc, i64_w, i32_w]
           rfl
          refine done_ (done_of HT_.out (by kernel_rfl)) ?_
          try go_wp2
          go_roundg k1
          case measure => have := HK1.out; omega
          case rel => exact ⟨(x5_1), (wrap64 (x6_1 + 1)), (by first | rfl | (simp; done) | (simp [*]; done)), (by first | rfl | (simp; done) | (simp [*]; done)), H', ⟨by have := HK1.out; omega⟩, ⟨bB BK380.out⟩, ⟨sB HB.out⟩⟩
        ·rw [if_neg c12] at H
         exact absurd H (by simp)
       ·rw [if_neg c11] at H
        exact absurd H (by simp)
     ·replace c7 := Bool.eq_false_iff.mpr c7
      subst c7
      have H1 : (spec_DecideRule.l0 k1 l0 x5_1 (wrap64 (x6_1 + 1)) a1_0 a1_1 a1_2) = some r := by rw [if_neg (show ¬ (false = true) by decide)] at H; exact H
      clear H
      have H := H1
      clear H1
      have H' := Aside0.mk H
      clear H
      try go_wp2
      replace BK380 := am (blk_drew BK380.out)
      replace HB := am (below_drew1 HB.out)
      have p381 : 0 ≤ (x6_1 : Int) := of_decide_eq_true (by first | (with_reducible assumption) | assumption)
      have q381 : x6_1 < (l0.length : Int) := of_decide_eq_true (by first | (with_reducible assumption) | assumption)
      obtain ⟨ad381, e381, hx381_0, hx381_1, hx381_2, hx381_3, hx381_4, hx381_5, hx381_6, hx381_7⟩ := at_T84 HR0.out x6_1 p381 q381
      have hw381_7 := hx381_7
      have hw381_6 := hx381_6
      have hw381_5 := hx381_5
      have hw381_4 := hx381_4
      have hw381_3 := hx381_3
      have hw381_2 := hx381_2
      have hw381_1 := hx381_1
      have hw381_0 := hx381_0
      cases e381
      replace hx381_0 := hc_ HB hx381_0
      replace hx381_1 := hc_ HB hx381_1
      replace hx381_2 := hc_ HB hx381_2
      replace hx381_3 := hc_ HB hx381_3
      replace hx381_4 := hc_ HB hx381_4
      replace hx381_5 := hc_ HB hx381_5
      replace hx381_6 := hc_ HB hx381_6
      replace hx381_7 := hc_ HB hx381_7
      replace p381 := eq_true p381
      replace q381 := eq_true q381
      refine start_ (n := 21) (S := fun w' => w'.cell? ⟨gb380, 0, none⟩ = some (.int .i64 a1_0) ∧ w'.cell? ⟨gb380, 1, none⟩ = some (.int .i64 a1_1) ∧ w'.cell? ⟨gb380, 2, none⟩ = some (.int .i64 a1_2) ∧ w'.cell? (ad381.add ((x6_1).toNat * 8)) = some (.int .i64 ((rd_T84 l0 x6_1).f0)) ∧ w'.cell? ⟨(ad381.add ((x6_1).toNat * 8)).block, (ad381.add ((x6_1).toNat * 8)).off + 1, none⟩ = some (.int .i64 ((rd_T84 l0 x6_1).f1)) ∧ w'.cell? ⟨(ad381.add ((x6_1).toNat * 8)).block, (ad381.add ((x6_1).toNat * 8)).off + 2, none⟩ = some (.int .i64 ((rd_T84 l0 x6_1).f2.f0)) ∧ w'.cell? ⟨(ad381.add ((x6_1).toNat * 8)).block, (ad381.add ((x6_1).toNat * 8)).off + 3, none⟩ = some (.int .i64 ((rd_T84 l0 x6_1).f2.f1)) ∧ w'.cell? ⟨(ad381.add ((x6_1).toNat * 8)).block, (ad381.add ((x6_1).toNat * 8)).off + 4, none⟩ = some (.int .i64 ((rd_T84 l0 x6_1).f3)) ∧ w'.cell? ⟨(ad381.add ((x6_1).toNat * 8)).block, (ad381.add ((x6_1).toNat * 8)).off + 5, none⟩ = some (.int .i64 ((rd_T84 l0 x6_1).f4)) ∧ w'.cell? ⟨(ad381.add ((x6_1).toNat * 8)).block, (ad381.add ((x6_1).toNat * 8)).off + 6, none⟩ = some (.int .i64 ((rd_T84 l0 x6_1).f5.f0)) ∧ w'.cell? ⟨(ad381.add ((x6_1).toNat * 8)).block, (ad381.add ((x6_1).toNat * 8)).off + 7, none⟩ = some (.int .i64 ((rd_T84 l0 x6_1).f5.f1))) (ds := []) #[z,z,z,z,z,z,z,z,z,z,z,z,z,z,z,z,z,z,z,z,z] (by kernel_rfl) rfl rfl ⟨(blk_cell BK380.out 0).trans rfl, (blk_cell BK380.out 1).trans rfl, (blk_cell BK380.out 2).trans rfl, (hc_ HB hw381_0), (hc_ HB hw381_1), (hc_ HB hw381_2), (hc_ HB hw381_3), (hc_ HB hw381_4), (hc_ HB hw381_5), (hc_ HB hw381_6), (hc_ HB hw381_7)⟩ (fun hHeld => ?_); refine with_tabW spec_DecideRule.tab5 spec_DecideRule.bits5 (fun HT_ HW_ => ?_)
      generalize wr.drew = w21 at BK380 HB hx381_0 hx381_1 hx381_2 hx381_3 hx381_4 hx381_5 hx381_6 hx381_7 hHeld ⊢
      refine pure_ (i := 0) (N := some 13) (v := ?_) (a' := ?_) #[o,z,z,z,z,z,z,z,z,z,z,z,z,z,z,z,z,z,z,z,z] rfl rfl (any_of HT_.out (by kernel_rfl)) (fun _ _ _ h => h) (Or.inl ⟨by rfl, ?_⟩) ?_ ?_
      rotate_left
      ·intro w'
       go_simp
       with_reducible rfl
      rotate_left
      ·simp only [Act.put, qa, qb, qc, i64_w, i32_w]
       rfl
      refine pure_ (i := 1) (N := some 14) (v := ?_) (a' := ?_) #[o,o,z,z,z,z,z,z,z,z,z,z,z,z,z,z,z,z,z,z,z] rfl rfl (any_of HT_.out (by kernel_rfl)) (fun _ _ _ h => h) (Or.inl ⟨by rfl, ?_⟩) ?_ ?_
      rotate_left
      ·intro w'
       go_simp
       with_reducible rfl
      rotate_left
      ·simp only [Act.put, qa, qb, qc, i64_w, i32_w]
       rfl
      refine pure_ (i := 2) (N := some 15) (v := ?_) (a' := ?_) #[o,o,o,z,z,z,z,z,z,z,z,z,z,z,z,z,z,z,z,z,z] rfl rfl (any_of HT_.out (by kernel_rfl)) (fun _ _ _ h => h) (Or.inl ⟨by rfl, ?_⟩) ?_ ?_
      rotate_left
      ·intro w'
       go_simp
       with_reducible rfl
      rotate_left
      ·simp only [Act.put, qa, qb, qc, i64_w, i32_w]
       rfl
      refine take_ (i := 3) (N := some 16) (v := ?_) (a' := ?_) #[o,o,o,o,z,z,z,z,z,z,z,z,z,z,z,z,z,z,z,z,z] rfl rfl (take_ofW HT_.out HW_.out (by kernel_rfl)) (fun _ _ _ h => h) (Or.inl ⟨by rfl, ?_⟩) hHeld ?_ ?_
      rotate_left
      ·rintro w' ⟨s0, s1, s2, s3, s4, s5, s6, s7, s8, s9, s10⟩
       go_simp
       with_reducible rfl
      rotate_left
      ·simp only [Act.put, qa, qb, qc, i64_w, i32_w]
       rfl
      refine take_ (i := 4) (N := some 17) (v := ?_) (a' := ?_) #[o,o,o,o,o,z,z,z,z,z,z,z,z,z,z,z,z,z,z,z,z] rfl rfl (take_ofW HT_.out HW_.out (by kernel_rfl)) (fun _ _ _ h => h) (Or.inl ⟨by rfl, ?_⟩) hHeld ?_ ?_
      rotate_left
      ·rintro w' ⟨s0, s1, s2, s3, s4, s5, s6, s7, s8, s9, s10⟩
       go_simp
       with_reducible rfl
      rotate_left
      ·simp only [Act.put, qa, qb, qc, i64_w, i32_w]
       rfl
      refine one_ (i := 5) (N := some 18) #[o,o,o,o,o,o,z,z,z,z,z,z,z,z,z,z,z,z,z,z,z] rfl rfl (one_of HT_.out (by kernel_rfl)) (by decide) (fun K hK => ?_)
      refine goes_ Try.func54 (by kernel_rfl) rfl #[.agg #[.int .i64 ((rd_T84 l0 x6_1).f0), .int .i64 ((rd_T84 l0 x6_1).f1), .int .i64 ((rd_T84 l0 x6_1).f2.f0), .int .i64 ((rd_T84 l0 x6_1).f2.f1), .int .i64 ((rd_T84 l0 x6_1).f3), .int .i64 ((rd_T84 l0 x6_1).f4), .int .i64 ((rd_T84 l0 x6_1).f5.f0), .int .i64 ((rd_T84 l0 x6_1).f5.f1)], .agg #[.int .i64 a1_0, .int .i64 a1_1, .int .i64 a1_2]] (by rfl) rfl rfl (by (try simp only [List.map_toArray, List.map_cons, List.map_nil]); first | done | rfl | (simp only [List.length_drop, List.length_take]; rfl)) ?_
      with_reducible refine (spec_Applies.calls ((rd_T84 l0 x6_1).f0) ((rd_T84 l0 x6_1).f1) ((rd_T84 l0 x6_1).f2.f0) ((rd_T84 l0 x6_1).f2.f1) ((rd_T84 l0 x6_1).f3) ((rd_T84 l0 x6_1).f4) ((rd_T84 l0 x6_1).f5.f0) ((rd_T84 l0 x6_1).f5.f1) a1_0 a1_1 a1_2 false _ A6.out).mono ?_
      rintro e w22 ⟨rfl, hb⟩
      refine ⟨_, rfl, ?_⟩
      replace BK380 := am (blk_below (bB BK380.out) hb)
      replace HB := am (below_step (sB HB.out) hb)
      (try clear hb)
      (try clear hb2)
      (try clear hk)
      (try clear hi)
      refine hK.out _ _ ⟨(blk_cell BK380.out 0).trans rfl, (blk_cell BK380.out 1).trans rfl, (blk_cell BK380.out 2).trans rfl, (hc_ HB hw381_0), (hc_ HB hw381_1), (hc_ HB hw381_2), (hc_ HB hw381_3), (hc_ HB hw381_4), (hc_ HB hw381_5), (hc_ HB hw381_6), (hc_ HB hw381_7)⟩ (fun hHeld => ?_)
      clear hK K
      refine norm_ (a' := ?_) ?_ ?_
      rotate_left
      ·show Act.put _ (some 18) _ = _
       simp only [Act.put, qa, qb, qc, i64_w, i32_w]
       rfl
      refine pure_ (i := 6) (N := some 19) (v := ?_) (a' := ?_) #[o,o,o,o,o,o,o,z,z,z,z,z,z,z,z,z,z,z,z,z,z] rfl rfl (any_of HT_.out (by kernel_rfl)) (fun _ _ _ h => h) (Or.inl ⟨by rfl, ?_⟩) ?_ ?_
      rotate_left
      ·intro w'
       go_simp
       with_reducible rfl
      rotate_left
      ·simp only [Act.put, qa, qb, qc, i64_w, i32_w]
       rfl
      refine pure_ (i := 7) (N := some 20) (v := undef) (a' := ?_) #[o,o,o,o,o,o,o,o,z,z,z,z,z,z,z,z,z,z,z,z,z] rfl rfl (any_of HT_.out (by kernel_rfl)) (fun _ _ _ h => h) (Or.inr ⟨by rfl, rfl⟩) ?_ ?_
      rotate_left
      ·simp only [Act.put, qa, qb, qc, i64_w, i32_w]
       rfl
      refine pure_ (i := 8) (N := some 21) (v := undef) (a' := ?_) #[o,o,o,o,o,o,o,o,o,z,z,z,z,z,z,z,z,z,z,z,z] rfl rfl (any_of HT_.out (by kernel_rfl)) (fun _ _ _ h => h) (Or.inr ⟨by rfl, rfl⟩) ?_ ?_
      rotate_left
      ·simp only [Act.put, qa, qb, qc, i64_w, i32_w]
       rfl
      refine pure_ (i := 9) (N := some 22) (v := undef) (a' := ?_) #[o,o,o,o,o,o,o,o,o,o,z,z,z,z,z,z,z,z,z,z,z] rfl rfl (any_of HT_.out (by kernel_rfl)) (fun _ _ _ h => h) (Or.inr ⟨by rfl, rfl⟩) ?_ ?_
      rotate_left
      ·simp only [Act.put, qa, qb, qc, i64_w, i32_w]
       rfl
      refine pure_ (i := 10) (N := some 23) (v := undef) (a' := ?_) #[o,o,o,o,o,o,o,o,o,o,o,z,z,z,z,z,z,z,z,z,z] rfl rfl (any_of HT_.out (by kernel_rfl)) (fun _ _ _ h => h) (Or.inr ⟨by rfl, rfl⟩) ?_ ?_
      rotate_left
      ·simp only [Act.put, qa, qb, qc, i64_w, i32_w]
       rfl
      refine pure_ (i := 11) (N := some 24) (v := undef) (a' := ?_) #[o,o,o,o,o,o,o,o,o,o,o,o,z,z,z,z,z,z,z,z,z] rfl rfl (any_of HT_.out (by kernel_rfl)) (fun _ _ _ h => h) (Or.inr ⟨by rfl, rfl⟩) ?_ ?_
      rotate_left
      ·simp only [Act.put, qa, qb, qc, i64_w, i32_w]
       rfl
      refine pure_ (i := 12) (N := some 25) (v := undef) (a' := ?_) #[o,o,o,o,o,o,o,o,o,o,o,o,o,z,z,z,z,z,z,z,z] rfl rfl (any_of HT_.out (by kernel_rfl)) (fun _ _ _ h => h) (Or.inr ⟨by rfl, rfl⟩) ?_ ?_
      rotate_left
      ·simp only [Act.put, qa, qb, qc, i64_w, i32_w]
       rfl
      refine pure_ (i := 13) (N := some 26) (v := undef) (a' := ?_) #[o,o,o,o,o,o,o,o,o,o,o,o,o,o,z,z,z,z,z,z,z] rfl rfl (any_of HT_.out (by kernel_rfl)) (fun _ _ _ h => h) (Or.inr ⟨by rfl, rfl⟩) ?_ ?_
      rotate_left
      ·simp only [Act.put, qa, qb, qc, i64_w, i32_w]
       rfl
      refine pure_ (i := 14) (N := some 27) (v := undef) (a' := ?_) #[o,o,o,o,o,o,o,o,o,o,o,o,o,o,o,z,z,z,z,z,z] rfl rfl (any_of HT_.out (by kernel_rfl)) (fun _ _ _ h => h) (Or.inr ⟨by rfl, rfl⟩) ?_ ?_
      rotate_left
      ·simp only [Act.put, qa, qb, qc, i64_w, i32_w]
       rfl
      refine pure_ (i := 15) (N := some 28) (v := undef) (a' := ?_) #[o,o,o,o,o,o,o,o,o,o,o,o,o,o,o,o,z,z,z,z,z] rfl rfl (any_of HT_.out (by kernel_rfl)) (fun _ _ _ h => h) (Or.inr ⟨by rfl, rfl⟩) ?_ ?_
      rotate_left
      ·simp only [Act.put, qa, qb, qc, i64_w, i32_w]
       rfl
      refine pure_ (i := 16) (N := some 29) (v := undef) (a' := ?_) #[o,o,o,o,o,o,o,o,o,o,o,o,o,o,o,o,o,z,z,z,z] rfl rfl (any_of HT_.out (by kernel_rfl)) (fun _ _ _ h => h) (Or.inr ⟨by rfl, rfl⟩) ?_ ?_
      rotate_left
      ·simp only [Act.put, qa, qb, qc, i64_w, i32_w]
       rfl
      refine pure_ (i := 17) (N := some 30) (v := undef) (a' := ?_) #[o,o,o,o,o,o,o,o,o,o,o,o,o,o,o,o,o,o,z,z,z] rfl rfl (any_of HT_.out (by kernel_rfl)) (fun _ _ _ h => h) (Or.inr ⟨by rfl, rfl⟩) ?_ ?_
      rotate_left
      ·simp only [Act.put, qa, qb, qc, i64_w, i32_w]
       rfl
      refine pure_ (i := 18) (N := some 31) (v := undef) (a' := ?_) #[o,o,o,o,o,o,o,o,o,o,o,o,o,o,o,o,o,o,o,z,z] rfl rfl (any_of HT_.out (by kernel_rfl)) (fun _ _ _ h => h) (Or.inr ⟨by rfl, rfl⟩) ?_ ?_
      rotate_left
      ·simp only [Act.put, qa, qb, qc, i64_w, i32_w]
       rfl
      refine pure_ (i := 19) (N := some 32) (v := undef) (a' := ?_) #[o,o,o,o,o,o,o,o,o,o,o,o,o,o,o,o,o,o,o,o,z] rfl rfl (any_of HT_.out (by kernel_rfl)) (fun _ _ _ h => h) (Or.inr ⟨by rfl, rfl⟩) ?_ ?_
      rotate_left
      ·simp only [Act.put, qa, qb, qc, i64_w, i32_w]
       rfl
      refine pure_ (i := 20) (N := some 33) (v := ?_) (a' := ?_) #[o,o,o,o,o,o,o,o,o,o,o,o,o,o,o,o,o,o,o,o,o] rfl rfl (any_of HT_.out (by kernel_rfl)) (fun _ _ _ h => h) (Or.inl ⟨by rfl, ?_⟩) ?_ ?_
      rotate_left
      ·intro w'
       go_simp
       with_reducible rfl
      rotate_left
      ·simp only [Act.put, qa, qb, qc, i64_w, i32_w]
       rfl
      refine done_ (done_of HT_.out (by kernel_rfl)) ?_
      try go_wp2
      go_roundg k1
      case measure => have := HK1.out; omega
      case rel => exact ⟨(x5_1), (wrap64 (x6_1 + 1)), (by first | rfl | (simp; done) | (simp [*]; done)), (by first | rfl | (simp; done) | (simp [*]; done)), H', ⟨by have := HK1.out; omega⟩, ⟨bB BK380.out⟩, ⟨sB HB.out⟩⟩
    ·rw [if_neg c5] at H
     exact absurd H (by simp)
   ·rw [if_neg c4] at H
    have c4b0 : decide (x6_1 < (l0.length : Int)) = false := decide_eq_false c4
    clear c4
    obtain rfl := Option.some.inj H
    go_wp2
    go_ret
    exact ⟨by first | rfl | (simp [errW_none, errW_some] <;> rfl) | (simp [*, errW_none, errW_some] <;> rfl), sB HB.out⟩

end Go.Proofs.Ytilneejgliglhaa.QS
