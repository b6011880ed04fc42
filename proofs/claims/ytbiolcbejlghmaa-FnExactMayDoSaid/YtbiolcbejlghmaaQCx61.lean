/- Go functions as Lean functions, each with its walk; printed by a program of this session (a scratch copy of print.py that follows nested field addresses and tells a law for the answer true). -/
import Derived.Test.YtbiolcbejlghmaaQCx0
import Derived.Test.YtbiolcbejlghmaaQCx60
namespace Go.Proofs.Ytbiolcbejlghmaa.QC
open Go.RowKit Go.Proofs.YtbiolcbejlghmaaW.PrintWords Go.Proofs.YtbiolcbejlghmaaW.PrintLast Go.Proofs.YtbiolcbejlghmaaW.PrintMore Go.Proofs.Ytbiolcbejlghmaa.Short
attribute [local go_sem] max2_int min2_int max_two min_two max_three min_three max_four min_four   -- for this text's walks alone
set_option linter.unusedVariables false
set_option linter.unusedSimpArgs false

/-! ### spec_IsAllowed: function 75 -/
def spec_IsAllowed.l0 : Nat → List (S85) → Int → Int → Int → Bool → Int → Int → Int → Option (Bool)
  | 0, _, _, _, _, _, _, _, _ => none
  | k + 1, x0, x1, x3, x4, x5, x13, x459000, x459001 => if x13 < (x0.length : Int) then (if 0 ≤ x13 then ((spec_Covers.f ((rd_T85 x0 x13).f0) ((rd_T85 x0 x13).f1.f0) ((rd_T85 x0 x13).f1.f1) ((rd_T85 x0 x13).f2) ((rd_T85 x0 x13).f3) ((rd_T85 x0 x13).f4) ((rd_T85 x0 x13).f5) x1 x459000 x459001 x3 x4 x5).bind fun t460 => (if t460 = true then (some true) else (spec_IsAllowed.l0 k x0 x1 x3 x4 x5 (wrap64 (x13 + 1)) x459000 x459001))) else (none)) else (some false)
def spec_IsAllowed.f (k : Nat) (l0 : List (S85)) (a1 : Int) (a2_0 : Int) (a2_1 : Int) (a3 : Int) (a4 : Int) (a5 : Bool) : Option (Bool) := spec_IsAllowed.l0 k l0 a1 a3 a4 a5 0 a2_0 a2_1
theorem spec_IsAllowed.mono_l : ∀ k, (∀ y0 y1 y2 y3 y4 y5 y6 y7, LeO (spec_IsAllowed.l0 k y0 y1 y2 y3 y4 y5 y6 y7) (spec_IsAllowed.l0 (k + 1) y0 y1 y2 y3 y4 y5 y6 y7))
  | 0 => fun _ _ _ _ _ _ _ _ r h => by simp [spec_IsAllowed.l0] at h
  | k + 1 => by
    have ih0 := spec_IsAllowed.mono_l k
    · intro y0 y1 y2 y3 y4 y5 y6 y7
      unfold spec_IsAllowed.l0
      repeat' first
      | (with_reducible exact ih0 _ _ _ _ _ _ _ _)
      | (with_reducible exact LeO.refl _)
      | (with_reducible exact LeO.none _)
      | (with_reducible refine LeO.ite ?_ ?_)
      | (with_reducible refine LeO.bind ?_ (fun _ => ?_))
      | exact ih0 _ _ _ _ _ _ _ _
      | exact LeO.none _
      | refine LeO.ite ?_ ?_
      | refine LeO.bind ?_ (fun _ => ?_)
theorem spec_IsAllowed.mono : ∀ a0 a1 a2 a3 a4 a5 a6 k, LeO (spec_IsAllowed.f k a0 a1 a2 a3 a4 a5 a6) (spec_IsAllowed.f (k + 1) a0 a1 a2 a3 a4 a5 a6) := by
  intro a0 a1 a2 a3 a4 a5 a6 k
  have ih0 := spec_IsAllowed.mono_l k
  unfold spec_IsAllowed.f
  repeat' first
      | (with_reducible exact ih0 _ _ _ _ _ _ _ _)
      | (with_reducible exact LeO.refl _)
      | (with_reducible exact LeO.none _)
      | (with_reducible refine LeO.ite ?_ ?_)
      | (with_reducible refine LeO.bind ?_ (fun _ => ?_))
      | exact ih0 _ _ _ _ _ _ _ _
      | exact LeO.none _
      | refine LeO.ite ?_ ?_
      | refine LeO.bind ?_ (fun _ => ?_)
def spec_IsAllowed.T4 : Bool × List (List Nat × List Nat) := (true, [([], []), ([], []), ([0, 1], [0, 1]), ([2], [2]), ([], []), ([], []), ([], []), ([], []), ([], []), ([3, 4, 5, 6, 7, 8], [3, 4, 5, 6, 7, 8])])
def spec_IsAllowed.B4 : List Nat := [0, 0, 3, 7, 0, 0, 0, 0, 0, 511]
theorem spec_IsAllowed.tab4 : rtab .any (opsOf Try.f75 4) = spec_IsAllowed.T4 := by kernel_rfl
theorem spec_IsAllowed.bits4 : waitsOk spec_IsAllowed.T4.2 spec_IsAllowed.B4 = true := by kernel_rfl
set_option maxHeartbeats 8000000 in
set_option maxRecDepth 100000 in
theorem spec_IsAllowed.calls (k : Nat) (A0 : Option Addr) (c0 : Nat) (l0 : List (S85)) (a1 : Int) (a2_0 : Int) (a2_1 : Int) (a3 : Int) (a4 : Int) (a5 : Bool) (r : Bool) (w : World) (hr0 : Kd.C k85 w A0 l0.length l0) (hc0 : l0.length ≤ c0) (h : spec_IsAllowed.f k l0 a1 a2_0 a2_1 a3 a4 a5 = some r) :
    Calls Try.prog 75 #[.slice A0 l0.length c0, .int .i64 a1, .agg #[.int .i64 a2_0, .int .i64 a2_1], .int .i64 a3, .int .i64 a4, .bool a5] w fun e w' => e = .returned (.bool r) ∧ Below w.heap.size w w' := by
  have hu31 := Try.underlying31
  have hu85 := Try.underlying85
  have HR0 := Aside0.mk hr0
  have HC0 := Aside0.mk hc0
  clear hr0 hc0
  have HB := am (Below.refl w.heap.size w)
  have H : (spec_IsAllowed.l0 k l0 a1 a3 a4 a5 0 a2_0 a2_1) = some r := h
  clear h
  have H' := Aside0.mk H
  clear H
  go_enter Try.func75, Try.ntmps75
  go_wp2_with (first | ((with_reducible refine gate_dst (N := 8) rfl ?_); refine box_event ?hg (N := 8) ?hd (cs := #[.int .i64 a2_0, .int .i64 a2_1]) (t := 31) ?hr ?_; (case hd => rfl); (case hg => rfl); (case hr => first | (go_simp; done) | (go_simp; rfl)); intro gb458 hg w7 hbox hb; have q_ := hbx_ (by repeat (first | (with_reducible first | exact HB.out | apply below_alloc | apply pw_below_drewN | apply below_drew1) | exact HB.out)) hg hb; have n0_ := q_.1; have n1_ := am (hbox); have n2_ := q_.2; have n3_ := n2_; clear HB; have HB := n0_; have BK458 := n1_; have GW458 := n2_; have GE458 := n3_; clear n0_ n1_ n2_ n3_ hb hbox hg))
  go_loopg [13] k (fun kq v13 w' => ∃ (x13_1 : Int), v13 = .int .i64 x13_1 ∧ Aside0 (spec_IsAllowed.l0 kq l0 a1 a3 a4 a5 x13_1 a2_0 a2_1 = some r) ∧ Aside0 (kq ≤ k) ∧ Aside0 (w'.heap[gb458]? = some (.cells #[.int .i64 a2_0, .int .i64 a2_1] 31 (0, 0))) ∧ Aside0 (Below w.heap.size w w'))
  case atStart => exact ⟨(0), (by first | rfl | (simp; done) | (simp [*]; done)), H', ⟨Nat.le_refl _⟩, ⟨by (with_reducible repeat (first | refine blk_drewN ?_ _ | refine blk_drew ?_ | refine blk_alloc ?_ _)); exact BK458.out⟩, ⟨by repeat (first | (with_reducible first | exact HB.out | apply below_alloc | apply pw_below_drewN | apply below_drew1 | refine below_set ?_ GE458.out) | exact HB.out)⟩⟩
  case round =>
    clear H'
    try clear p2
    try clear c7
    obtain ⟨x13_1, rfl, HA, HK1, BK458, HB⟩ := hrel
    cases gk with
    | zero => exact absurd HA.out (by simp [spec_IsAllowed.l0])
    | succ k1 =>
      have H := HA.out
      clear HA
      simp only [spec_IsAllowed.l0] at H
      by_cases c8 : x13_1 < (l0.length : Int)
      · rw [if_pos c8] at H
        have c8b0 : decide (x13_1 < (l0.length : Int)) = true := decide_eq_true c8
        clear c8
        by_cases c9 : 0 ≤ x13_1
        · rw [if_pos c9] at H
          have c9b0 : decide (0 ≤ x13_1) = true := decide_eq_true c9
          clear c9
          replace H := Option.bind_eq_some_iff.mp H
          obtain ⟨t460, A100, H⟩ := H
          replace H : (if t460 = true then (some true) else (spec_IsAllowed.l0 k1 l0 a1 a3 a4 a5 (wrap64 (x13_1 + 1)) a2_0 a2_1)) = some r := H
          have A10 := Aside0.mk A100
          clear A100
          by_cases c11 : t460 = true
          · subst c11
            have H1 : (some true) = some r := by rw [if_pos rfl] at H; exact H
            clear H
            have H := H1
            clear H1
            obtain rfl := Option.some.inj H
            try go_wp2
            have n0_ := am (blk_drew BK458.out)
            have n1_ := am (below_drew1 HB.out)
            clear BK458
            clear HB
            have BK458 := n0_
            have HB := n1_
            clear n0_ n1_
            have p459 : 0 ≤ (x13_1 : Int) := of_decide_eq_true (by first | (with_reducible assumption) | assumption)
            have q459 : x13_1 < (l0.length : Int) := of_decide_eq_true (by first | (with_reducible assumption) | assumption)
            obtain ⟨ad459, e459, hx459_0, hx459_1, hx459_2, hx459_3, hx459_4, hx459_5, hx459_6⟩ := at_T85 HR0.out x13_1 p459 q459
            have hw459_6 := hx459_6
            have hw459_5 := hx459_5
            have hw459_4 := hx459_4
            have hw459_3 := hx459_3
            have hw459_2 := hx459_2
            have hw459_1 := hx459_1
            have hw459_0 := hx459_0
            cases e459
            replace hx459_0 := (HB.out.cell (World.block_lt_of_cell? w _ hx459_0)).trans hx459_0
            replace hx459_1 := (HB.out.cell (World.block_lt_of_cell? w _ hx459_1)).trans hx459_1
            replace hx459_2 := (HB.out.cell (World.block_lt_of_cell? w _ hx459_2)).trans hx459_2
            replace hx459_3 := (HB.out.cell (World.block_lt_of_cell? w _ hx459_3)).trans hx459_3
            replace hx459_4 := (HB.out.cell (World.block_lt_of_cell? w _ hx459_4)).trans hx459_4
            replace hx459_5 := (HB.out.cell (World.block_lt_of_cell? w _ hx459_5)).trans hx459_5
            replace hx459_6 := (HB.out.cell (World.block_lt_of_cell? w _ hx459_6)).trans hx459_6
            replace p459 := eq_true p459
            replace q459 := eq_true q459
            refine start_ (n := 10) (S := fun w' => w'.cell? ⟨gb458, 0, none⟩ = some (.int .i64 a2_0) ∧ w'.cell? ⟨gb458, 1, none⟩ = some (.int .i64 a2_1) ∧ w'.cell? (ad459.add ((x13_1).toNat * 7)) = some (.int .i64 ((rd_T85 l0 x13_1).f0)) ∧ w'.cell? ⟨(ad459.add ((x13_1).toNat * 7)).block, (ad459.add ((x13_1).toNat * 7)).off + 1, none⟩ = some (.int .i64 ((rd_T85 l0 x13_1).f1.f0)) ∧ w'.cell? ⟨(ad459.add ((x13_1).toNat * 7)).block, (ad459.add ((x13_1).toNat * 7)).off + 2, none⟩ = some (.int .i64 ((rd_T85 l0 x13_1).f1.f1)) ∧ w'.cell? ⟨(ad459.add ((x13_1).toNat * 7)).block, (ad459.add ((x13_1).toNat * 7)).off + 3, none⟩ = some (.int .i64 ((rd_T85 l0 x13_1).f2)) ∧ w'.cell? ⟨(ad459.add ((x13_1).toNat * 7)).block, (ad459.add ((x13_1).toNat * 7)).off + 4, none⟩ = some (.int .i64 ((rd_T85 l0 x13_1).f3)) ∧ w'.cell? ⟨(ad459.add ((x13_1).toNat * 7)).block, (ad459.add ((x13_1).toNat * 7)).off + 5, none⟩ = some (.int .i64 ((rd_T85 l0 x13_1).f4)) ∧ w'.cell? ⟨(ad459.add ((x13_1).toNat * 7)).block, (ad459.add ((x13_1).toNat * 7)).off + 6, none⟩ = some (.bool ((rd_T85 l0 x13_1).f5))) (ds := []) #[false, false, false, false, false, false, false, false, false, false] (by kernel_rfl) rfl rfl ⟨(blk_cell BK458.out 0).trans rfl, (blk_cell BK458.out 1).trans rfl, ((HB.out.cell (World.block_lt_of_cell? w _ hw459_0)).trans hw459_0), ((HB.out.cell (World.block_lt_of_cell? w _ hw459_1)).trans hw459_1), ((HB.out.cell (World.block_lt_of_cell? w _ hw459_2)).trans hw459_2), ((HB.out.cell (World.block_lt_of_cell? w _ hw459_3)).trans hw459_3), ((HB.out.cell (World.block_lt_of_cell? w _ hw459_4)).trans hw459_4), ((HB.out.cell (World.block_lt_of_cell? w _ hw459_5)).trans hw459_5), ((HB.out.cell (World.block_lt_of_cell? w _ hw459_6)).trans hw459_6)⟩ (fun hHeld => ?_); refine with_tabW spec_IsAllowed.tab4 spec_IsAllowed.bits4 (fun HT_ HW_ => ?_)
            generalize wr.drew = w12 at BK458 HB hx459_0 hx459_1 hx459_2 hx459_3 hx459_4 hx459_5 hx459_6 hHeld ⊢
            refine pure_ (i := 0) (N := some 20) (v := ?_) (a' := ?_) #[true, false, false, false, false, false, false, false, false, false] rfl rfl (any_of HT_.out (by kernel_rfl)) (fun _ _ _ h => h) (Or.inl ⟨by rfl, ?_⟩) ?_ ?_
            rotate_left
            · intro w'
              go_simp
              with_reducible rfl
            rotate_left
            · simp only [Act.put, List.setIfInBounds_toArray, List.set_cons_zero, List.set_cons_succ, i64_w, i32_w]
              rfl
            refine pure_ (i := 1) (N := some 21) (v := ?_) (a' := ?_) #[true, true, false, false, false, false, false, false, false, false] rfl rfl (any_of HT_.out (by kernel_rfl)) (fun _ _ _ h => h) (Or.inl ⟨by rfl, ?_⟩) ?_ ?_
            rotate_left
            · intro w'
              go_simp
              with_reducible rfl
            rotate_left
            · simp only [Act.put, List.setIfInBounds_toArray, List.set_cons_zero, List.set_cons_succ, i64_w, i32_w]
              rfl
            refine pure_ (i := 2) (N := some 22) (v := ?_) (a' := ?_) #[true, true, true, false, false, false, false, false, false, false] rfl rfl (any_of HT_.out (by kernel_rfl)) (fun _ _ _ h => h) (Or.inl ⟨by rfl, ?_⟩) ?_ ?_
            rotate_left
            · intro w'
              go_simp
              with_reducible rfl
            rotate_left
            · simp only [Act.put, List.setIfInBounds_toArray, List.set_cons_zero, List.set_cons_succ, i64_w, i32_w]
              rfl
            refine pure_ (i := 4) (N := some 24) (v := ?_) (a' := ?_) #[true, true, true, false, true, false, false, false, false, false] rfl rfl (any_of HT_.out (by kernel_rfl)) (fun _ _ _ h => h) (Or.inl ⟨by rfl, ?_⟩) ?_ ?_
            rotate_left
            · intro w'
              go_simp
              with_reducible rfl
            rotate_left
            · simp only [Act.put, List.setIfInBounds_toArray, List.set_cons_zero, List.set_cons_succ, i64_w, i32_w]
              rfl
            refine pure_ (i := 6) (N := some 26) (v := ?_) (a' := ?_) #[true, true, true, false, true, false, true, false, false, false] rfl rfl (any_of HT_.out (by kernel_rfl)) (fun _ _ _ h => h) (Or.inl ⟨by rfl, ?_⟩) ?_ ?_
            rotate_left
            · intro w'
              go_simp
              with_reducible rfl
            rotate_left
            · simp only [Act.put, List.setIfInBounds_toArray, List.set_cons_zero, List.set_cons_succ, i64_w, i32_w]
              rfl
            refine pure_ (i := 7) (N := some 27) (v := ?_) (a' := ?_) #[true, true, true, false, true, false, true, true, false, false] rfl rfl (any_of HT_.out (by kernel_rfl)) (fun _ _ _ h => h) (Or.inl ⟨by rfl, ?_⟩) ?_ ?_
            rotate_left
            · intro w'
              go_simp
              with_reducible rfl
            rotate_left
            · simp only [Act.put, List.setIfInBounds_toArray, List.set_cons_zero, List.set_cons_succ, i64_w, i32_w]
              rfl
            refine pure_ (i := 8) (N := some 28) (v := ?_) (a' := ?_) #[true, true, true, false, true, false, true, true, true, false] rfl rfl (any_of HT_.out (by kernel_rfl)) (fun _ _ _ h => h) (Or.inl ⟨by rfl, ?_⟩) ?_ ?_
            rotate_left
            · intro w'
              go_simp
              with_reducible rfl
            rotate_left
            · simp only [Act.put, List.setIfInBounds_toArray, List.set_cons_zero, List.set_cons_succ, i64_w, i32_w]
              rfl
            refine take_ (i := 3) (N := some 23) (v := ?_) (a' := ?_) #[true, true, true, true, true, false, true, true, true, false] rfl rfl (take_ofW HT_.out HW_.out (by kernel_rfl)) (fun _ _ _ h => h) (Or.inl ⟨by rfl, ?_⟩) hHeld ?_ ?_
            rotate_left
            · rintro w' ⟨s0, s1, s2, s3, s4, s5, s6, s7, s8⟩
              go_simp
              with_reducible rfl
            rotate_left
            · simp only [Act.put, List.setIfInBounds_toArray, List.set_cons_zero, List.set_cons_succ, i64_w, i32_w]
              rfl
            refine take_ (i := 5) (N := some 25) (v := ?_) (a' := ?_) #[true, true, true, true, true, true, true, true, true, false] rfl rfl (take_ofW HT_.out HW_.out (by kernel_rfl)) (fun _ _ _ h => h) (Or.inl ⟨by rfl, ?_⟩) hHeld ?_ ?_
            rotate_left
            · rintro w' ⟨s0, s1, s2, s3, s4, s5, s6, s7, s8⟩
              go_simp
              with_reducible rfl
            rotate_left
            · simp only [Act.put, List.setIfInBounds_toArray, List.set_cons_zero, List.set_cons_succ, i64_w, i32_w]
              rfl
            refine one_ (i := 9) (N := some 29) #[true, true, true, true, true, true, true, true, true, true] rfl rfl (one_of HT_.out (by kernel_rfl)) (by decide) (fun K hK => ?_)
            refine goes_ Try.func100 (by kernel_rfl) rfl #[.agg #[.int .i64 ((rd_T85 l0 x13_1).f0), .int .i64 ((rd_T85 l0 x13_1).f1.f0), .int .i64 ((rd_T85 l0 x13_1).f1.f1), .int .i64 ((rd_T85 l0 x13_1).f2), .int .i64 ((rd_T85 l0 x13_1).f3), .int .i64 ((rd_T85 l0 x13_1).f4), .bool ((rd_T85 l0 x13_1).f5)], .int .i64 a1, .agg #[.int .i64 a2_0, .int .i64 a2_1], .int .i64 a3, .int .i64 a4, .bool a5] (by rfl) rfl rfl (by (try simp only [List.map_toArray, List.map_cons, List.map_nil]); first | done | rfl | (simp only [List.length_drop, List.length_take]; rfl)) ?_
            with_reducible refine (spec_Covers.calls ((rd_T85 l0 x13_1).f0) ((rd_T85 l0 x13_1).f1.f0) ((rd_T85 l0 x13_1).f1.f1) ((rd_T85 l0 x13_1).f2) ((rd_T85 l0 x13_1).f3) ((rd_T85 l0 x13_1).f4) ((rd_T85 l0 x13_1).f5) a1 a2_0 a2_1 a3 a4 a5 true _ A10.out).mono ?_
            rintro e w13 ⟨rfl, hb⟩
            refine ⟨_, rfl, ?_⟩
            have n0_ := am (blk_below (by (with_reducible repeat (first | refine blk_drewN ?_ _ | refine blk_drew ?_ | refine blk_alloc ?_ _)); exact BK458.out) hb)
            have n1_ := am (below_step (by repeat (first | (with_reducible first | exact HB.out | apply below_alloc | apply pw_below_drewN | apply below_drew1 | refine below_set ?_ GE458.out) | exact HB.out)) hb)
            clear BK458
            clear HB
            have BK458 := n0_
            have HB := n1_
            clear n0_ n1_
            (try clear hb)
            (try clear hb2)
            (try clear hk)
            (try clear hi)
            refine hK.out _ _ ⟨(blk_cell BK458.out 0).trans rfl, (blk_cell BK458.out 1).trans rfl, ((HB.out.cell (World.block_lt_of_cell? w _ hw459_0)).trans hw459_0), ((HB.out.cell (World.block_lt_of_cell? w _ hw459_1)).trans hw459_1), ((HB.out.cell (World.block_lt_of_cell? w _ hw459_2)).trans hw459_2), ((HB.out.cell (World.block_lt_of_cell? w _ hw459_3)).trans hw459_3), ((HB.out.cell (World.block_lt_of_cell? w _ hw459_4)).trans hw459_4), ((HB.out.cell (World.block_lt_of_cell? w _ hw459_5)).trans hw459_5), ((HB.out.cell (World.block_lt_of_cell? w _ hw459_6)).trans hw459_6)⟩ (fun hHeld => ?_)
            clear hK K
            refine norm_ (a' := ?_) ?_ ?_
            rotate_left
            · show Act.put _ (some 29) _ = _
              simp only [Act.put, List.setIfInBounds_toArray, List.set_cons_zero, List.set_cons_succ, i64_w, i32_w]
              rfl
            refine done_ (done_of HT_.out (by kernel_rfl)) ?_
            try go_wp2
            go_ret
            exact ⟨by first | rfl | (simp [errW_none, errW_some] <;> rfl) | (simp [*, errW_none, errW_some] <;> rfl), by repeat (first | (with_reducible first | exact HB.out | apply below_alloc | apply pw_below_drewN | apply below_drew1 | refine below_set ?_ GE458.out) | exact HB.out)⟩
          · replace c11 := Bool.eq_false_iff.mpr c11
            subst c11
            have H1 : (spec_IsAllowed.l0 k1 l0 a1 a3 a4 a5 (wrap64 (x13_1 + 1)) a2_0 a2_1) = some r := by rw [if_neg (show ¬ (false = true) by decide)] at H; exact H
            clear H
            have H := H1
            clear H1
            have H' := Aside0.mk H
            clear H
            try go_wp2
            have n0_ := am (blk_drew BK458.out)
            have n1_ := am (below_drew1 HB.out)
            clear BK458
            clear HB
            have BK458 := n0_
            have HB := n1_
            clear n0_ n1_
            have p459 : 0 ≤ (x13_1 : Int) := of_decide_eq_true (by first | (with_reducible assumption) | assumption)
            have q459 : x13_1 < (l0.length : Int) := of_decide_eq_true (by first | (with_reducible assumption) | assumption)
            obtain ⟨ad459, e459, hx459_0, hx459_1, hx459_2, hx459_3, hx459_4, hx459_5, hx459_6⟩ := at_T85 HR0.out x13_1 p459 q459
            have hw459_6 := hx459_6
            have hw459_5 := hx459_5
            have hw459_4 := hx459_4
            have hw459_3 := hx459_3
            have hw459_2 := hx459_2
            have hw459_1 := hx459_1
            have hw459_0 := hx459_0
            cases e459
            replace hx459_0 := (HB.out.cell (World.block_lt_of_cell? w _ hx459_0)).trans hx459_0
            replace hx459_1 := (HB.out.cell (World.block_lt_of_cell? w _ hx459_1)).trans hx459_1
            replace hx459_2 := (HB.out.cell (World.block_lt_of_cell? w _ hx459_2)).trans hx459_2
            replace hx459_3 := (HB.out.cell (World.block_lt_of_cell? w _ hx459_3)).trans hx459_3
            replace hx459_4 := (HB.out.cell (World.block_lt_of_cell? w _ hx459_4)).trans hx459_4
            replace hx459_5 := (HB.out.cell (World.block_lt_of_cell? w _ hx459_5)).trans hx459_5
            replace hx459_6 := (HB.out.cell (World.block_lt_of_cell? w _ hx459_6)).trans hx459_6
            replace p459 := eq_true p459
            replace q459 := eq_true q459
            refine start_ (n := 10) (S := fun w' => w'.cell? ⟨gb458, 0, none⟩ = some (.int .i64 a2_0) ∧ w'.cell? ⟨gb458, 1, none⟩ = some (.int .i64 a2_1) ∧ w'.cell? (ad459.add ((x13_1).toNat * 7)) = some (.int .i64 ((rd_T85 l0 x13_1).f0)) ∧ w'.cell? ⟨(ad459.add ((x13_1).toNat * 7)).block, (ad459.add ((x13_1).toNat * 7)).off + 1, none⟩ = some (.int .i64 ((rd_T85 l0 x13_1).f1.f0)) ∧ w'.cell? ⟨(ad459.add ((x13_1).toNat * 7)).block, (ad459.add ((x13_1).toNat * 7)).off + 2, none⟩ = some (.int .i64 ((rd_T85 l0 x13_1).f1.f1)) ∧ w'.cell? ⟨(ad459.add ((x13_1).toNat * 7)).block, (ad459.add ((x13_1).toNat * 7)).off + 3, none⟩ = some (.int .i64 ((rd_T85 l0 x13_1).f2)) ∧ w'.cell? ⟨(ad459.add ((x13_1).toNat * 7)).block, (ad459.add ((x13_1).toNat * 7)).off + 4, none⟩ = some (.int .i64 ((rd_T85 l0 x13_1).f3)) ∧ w'.cell? ⟨(ad459.add ((x13_1).toNat * 7)).block, (ad459.add ((x13_1).toNat * 7)).off + 5, none⟩ = some (.int .i64 ((rd_T85 l0 x13_1).f4)) ∧ w'.cell? ⟨(ad459.add ((x13_1).toNat * 7)).block, (ad459.add ((x13_1).toNat * 7)).off + 6, none⟩ = some (.bool ((rd_T85 l0 x13_1).f5))) (ds := []) #[false, false, false, false, false, false, false, false, false, false] (by kernel_rfl) rfl rfl ⟨(blk_cell BK458.out 0).trans rfl, (blk_cell BK458.out 1).trans rfl, ((HB.out.cell (World.block_lt_of_cell? w _ hw459_0)).trans hw459_0), ((HB.out.cell (World.block_lt_of_cell? w _ hw459_1)).trans hw459_1), ((HB.out.cell (World.block_lt_of_cell? w _ hw459_2)).trans hw459_2), ((HB.out.cell (World.block_lt_of_cell? w _ hw459_3)).trans hw459_3), ((HB.out.cell (World.block_lt_of_cell? w _ hw459_4)).trans hw459_4), ((HB.out.cell (World.block_lt_of_cell? w _ hw459_5)).trans hw459_5), ((HB.out.cell (World.block_lt_of_cell? w _ hw459_6)).trans hw459_6)⟩ (fun hHeld => ?_); refine with_tabW spec_IsAllowed.tab4 spec_IsAllowed.bits4 (fun HT_ HW_ => ?_)
            generalize wr.drew = w14 at BK458 HB hx459_0 hx459_1 hx459_2 hx459_3 hx459_4 hx459_5 hx459_6 hHeld ⊢
            refine pure_ (i := 0) (N := some 20) (v := ?_) (a' := ?_) #[true, false, false, false, false, false, false, false, false, false] rfl rfl (any_of HT_.out (by kernel_rfl)) (fun _ _ _ h => h) (Or.inl ⟨by rfl, ?_⟩) ?_ ?_
            rotate_left
            · intro w'
              go_simp
              with_reducible rfl
            rotate_left
            · simp only [Act.put, List.setIfInBounds_toArray, List.set_cons_zero, List.set_cons_succ, i64_w, i32_w]
              rfl
            refine pure_ (i := 1) (N := some 21) (v := ?_) (a' := ?_) #[true, true, false, false, false, false, false, false, false, false] rfl rfl (any_of HT_.out (by kernel_rfl)) (fun _ _ _ h => h) (Or.inl ⟨by rfl, ?_⟩) ?_ ?_
            rotate_left
            · intro w'
              go_simp
              with_reducible rfl
            rotate_left
            · simp only [Act.put, List.setIfInBounds_toArray, List.set_cons_zero, List.set_cons_succ, i64_w, i32_w]
              rfl
            refine pure_ (i := 2) (N := some 22) (v := ?_) (a' := ?_) #[true, true, true, false, false, false, false, false, false, false] rfl rfl (any_of HT_.out (by kernel_rfl)) (fun _ _ _ h => h) (Or.inl ⟨by rfl, ?_⟩) ?_ ?_
            rotate_left
            · intro w'
              go_simp
              with_reducible rfl
            rotate_left
            · simp only [Act.put, List.setIfInBounds_toArray, List.set_cons_zero, List.set_cons_succ, i64_w, i32_w]
              rfl
            refine pure_ (i := 4) (N := some 24) (v := ?_) (a' := ?_) #[true, true, true, false, true, false, false, false, false, false] rfl rfl (any_of HT_.out (by kernel_rfl)) (fun _ _ _ h => h) (Or.inl ⟨by rfl, ?_⟩) ?_ ?_
            rotate_left
            · intro w'
              go_simp
              with_reducible rfl
            rotate_left
            · simp only [Act.put, List.setIfInBounds_toArray, List.set_cons_zero, List.set_cons_succ, i64_w, i32_w]
              rfl
            refine pure_ (i := 6) (N := some 26) (v := ?_) (a' := ?_) #[true, true, true, false, true, false, true, false, false, false] rfl rfl (any_of HT_.out (by kernel_rfl)) (fun _ _ _ h => h) (Or.inl ⟨by rfl, ?_⟩) ?_ ?_
            rotate_left
            · intro w'
              go_simp
              with_reducible rfl
            rotate_left
            · simp only [Act.put, List.setIfInBounds_toArray, List.set_cons_zero, List.set_cons_succ, i64_w, i32_w]
              rfl
            refine pure_ (i := 7) (N := some 27) (v := ?_) (a' := ?_) #[true, true, true, false, true, false, true, true, false, false] rfl rfl (any_of HT_.out (by kernel_rfl)) (fun _ _ _ h => h) (Or.inl ⟨by rfl, ?_⟩) ?_ ?_
            rotate_left
            · intro w'
              go_simp
              with_reducible rfl
            rotate_left
            · simp only [Act.put, List.setIfInBounds_toArray, List.set_cons_zero, List.set_cons_succ, i64_w, i32_w]
              rfl
            refine pure_ (i := 8) (N := some 28) (v := ?_) (a' := ?_) #[true, true, true, false, true, false, true, true, true, false] rfl rfl (any_of HT_.out (by kernel_rfl)) (fun _ _ _ h => h) (Or.inl ⟨by rfl, ?_⟩) ?_ ?_
            rotate_left
            · intro w'
              go_simp
              with_reducible rfl
            rotate_left
            · simp only [Act.put, List.setIfInBounds_toArray, List.set_cons_zero, List.set_cons_succ, i64_w, i32_w]
              rfl
            refine take_ (i := 3) (N := some 23) (v := ?_) (a' := ?_) #[true, true, true, true, true, false, true, true, true, false] rfl rfl (take_ofW HT_.out HW_.out (by kernel_rfl)) (fun _ _ _ h => h) (Or.inl ⟨by rfl, ?_⟩) hHeld ?_ ?_
            rotate_left
            · rintro w' ⟨s0, s1, s2, s3, s4, s5, s6, s7, s8⟩
              go_simp
              with_reducible rfl
            rotate_left
            · simp only [Act.put, List.setIfInBounds_toArray, List.set_cons_zero, List.set_cons_succ, i64_w, i32_w]
              rfl
            refine take_ (i := 5) (N := some 25) (v := ?_) (a' := ?_) #[true, true, true, true, true, true, true, true, true, false] rfl rfl (take_ofW HT_.out HW_.out (by kernel_rfl)) (fun _ _ _ h => h) (Or.inl ⟨by rfl, ?_⟩) hHeld ?_ ?_
            rotate_left
            · rintro w' ⟨s0, s1, s2, s3, s4, s5, s6, s7, s8⟩
              go_simp
              with_reducible rfl
            rotate_left
            · simp only [Act.put, List.setIfInBounds_toArray, List.set_cons_zero, List.set_cons_succ, i64_w, i32_w]
              rfl
            refine one_ (i := 9) (N := some 29) #[true, true, true, true, true, true, true, true, true, true] rfl rfl (one_of HT_.out (by kernel_rfl)) (by decide) (fun K hK => ?_)
            refine goes_ Try.func100 (by kernel_rfl) rfl #[.agg #[.int .i64 ((rd_T85 l0 x13_1).f0), .int .i64 ((rd_T85 l0 x13_1).f1.f0), .int .i64 ((rd_T85 l0 x13_1).f1.f1), .int .i64 ((rd_T85 l0 x13_1).f2), .int .i64 ((rd_T85 l0 x13_1).f3), .int .i64 ((rd_T85 l0 x13_1).f4), .bool ((rd_T85 l0 x13_1).f5)], .int .i64 a1, .agg #[.int .i64 a2_0, .int .i64 a2_1], .int .i64 a3, .int .i64 a4, .bool a5] (by rfl) rfl rfl (by (try simp only [List.map_toArray, List.map_cons, List.map_nil]); first | done | rfl | (simp only [List.length_drop, List.length_take]; rfl)) ?_
            with_reducible refine (spec_Covers.calls ((rd_T85 l0 x13_1).f0) ((rd_T85 l0 x13_1).f1.f0) ((rd_T85 l0 x13_1).f1.f1) ((rd_T85 l0 x13_1).f2) ((rd_T85 l0 x13_1).f3) ((rd_T85 l0 x13_1).f4) ((rd_T85 l0 x13_1).f5) a1 a2_0 a2_1 a3 a4 a5 false _ A10.out).mono ?_
            rintro e w15 ⟨rfl, hb⟩
            refine ⟨_, rfl, ?_⟩
            have n0_ := am (blk_below (by (with_reducible repeat (first | refine blk_drewN ?_ _ | refine blk_drew ?_ | refine blk_alloc ?_ _)); exact BK458.out) hb)
            have n1_ := am (below_step (by repeat (first | (with_reducible first | exact HB.out | apply below_alloc | apply pw_below_drewN | apply below_drew1 | refine below_set ?_ GE458.out) | exact HB.out)) hb)
            clear BK458
            clear HB
            have BK458 := n0_
            have HB := n1_
            clear n0_ n1_
            (try clear hb)
            (try clear hb2)
            (try clear hk)
            (try clear hi)
            refine hK.out _ _ ⟨(blk_cell BK458.out 0).trans rfl, (blk_cell BK458.out 1).trans rfl, ((HB.out.cell (World.block_lt_of_cell? w _ hw459_0)).trans hw459_0), ((HB.out.cell (World.block_lt_of_cell? w _ hw459_1)).trans hw459_1), ((HB.out.cell (World.block_lt_of_cell? w _ hw459_2)).trans hw459_2), ((HB.out.cell (World.block_lt_of_cell? w _ hw459_3)).trans hw459_3), ((HB.out.cell (World.block_lt_of_cell? w _ hw459_4)).trans hw459_4), ((HB.out.cell (World.block_lt_of_cell? w _ hw459_5)).trans hw459_5), ((HB.out.cell (World.block_lt_of_cell? w _ hw459_6)).trans hw459_6)⟩ (fun hHeld => ?_)
            clear hK K
            refine norm_ (a' := ?_) ?_ ?_
            rotate_left
            · show Act.put _ (some 29) _ = _
              simp only [Act.put, List.setIfInBounds_toArray, List.set_cons_zero, List.set_cons_succ, i64_w, i32_w]
              rfl
            refine done_ (done_of HT_.out (by kernel_rfl)) ?_
            try go_wp2
            go_roundg k1
            case measure => have := HK1.out; omega
            case rel => exact ⟨(wrap64 (x13_1 + 1)), (by first | rfl | (simp; done) | (simp [*]; done)), H', ⟨by have := HK1.out; omega⟩, ⟨by (with_reducible repeat (first | refine blk_drewN ?_ _ | refine blk_drew ?_ | refine blk_alloc ?_ _)); exact BK458.out⟩, ⟨by repeat (first | (with_reducible first | exact HB.out | apply below_alloc | apply pw_below_drewN | apply below_drew1 | refine below_set ?_ GE458.out) | exact HB.out)⟩⟩
        · rw [if_neg c9] at H
          exact absurd H (by simp)
      · rw [if_neg c8] at H
        have c8b0 : decide (x13_1 < (l0.length : Int)) = false := decide_eq_false c8
        clear c8
        obtain rfl := Option.some.inj H
        go_wp2
        go_ret
        exact ⟨by first | rfl | (simp [errW_none, errW_some] <;> rfl) | (simp [*, errW_none, errW_some] <;> rfl), by repeat (first | (with_reducible first | exact HB.out | apply below_alloc | apply pw_below_drewN | apply below_drew1 | refine below_set ?_ GE458.out) | exact HB.out)⟩

end Go.Proofs.Ytbiolcbejlghmaa.QC
