/- Go functions as Lean functions, each with its walk; printed by a program of this session (a scratch copy of print.py that follows nested field addresses and tells a law for the answer true). -/
import Derived.Test.YtacgichgadoddaaQIx0
import Derived.Test.YtacgichgadoddaaQIxM0
namespace Go.Proofs.Ytacgichgadoddaa.QI
open Go.RowKit Go.Proofs.YtacgichgadoddaaW.PrintWords Go.Proofs.YtacgichgadoddaaW.PrintLast Go.Proofs.YtacgichgadoddaaW.PrintMore Go.Proofs.Ytacgichgadoddaa.Short
attribute [local go_sem] max2_int min2_int max_two min_two max_three min_three max_four min_four   -- for this text's walks alone
set_option linter.unusedVariables false
set_option linter.unusedSimpArgs false

/-! ### impl_ExpireGrants: function 42 -/
def impl_ExpireGrants.l0 : Nat → Int → List (S48) → List (S48) → Int → Int → Option ((List (S48)))
  | 0, _, _, _, _, _ => none
  | k + 1, x1, x5, x9, x10, x11 => if x11 < x10 then (if 0 ≤ x11 then (if x11 < (x9.length : Int) then ((impl_IsGrant.f ((rd_T48 x9 x11).f0) ((rd_T48 x9 x11).f1.f0) ((rd_T48 x9 x11).f1.f1) ((rd_T48 x9 x11).f2) ((rd_T48 x9 x11).f3) ((rd_T48 x9 x11).f4) ((rd_T48 x9 x11).f5)).bind fun t346 => (if t346 = true then (if ((rd_T48 x9 x11).f4) ≥ x1 then (if x5.length < 2513169434916 then (impl_ExpireGrants.l0 k x1 (x5 ++ [(⟨(rd_T48 x9 x11).f0, (⟨(rd_T48 x9 x11).f1.f0, (rd_T48 x9 x11).f1.f1⟩ : S32), (rd_T48 x9 x11).f2, (rd_T48 x9 x11).f3, (rd_T48 x9 x11).f4, (rd_T48 x9 x11).f5⟩ : S48)]) x9 x10 (wrap64 (x11 + 1))) else (none)) else (impl_ExpireGrants.l0 k x1 x5 x9 x10 (wrap64 (x11 + 1)))) else (impl_ExpireGrants.l0 k x1 x5 x9 x10 (wrap64 (x11 + 1))))) else (none)) else (none)) else (some x5)
def impl_ExpireGrants.f (k : Nat) (l0 : List (S48)) (a1 : Int) : Option ((List (S48))) := impl_ExpireGrants.l0 k a1 (([] : List (S48))) l0 (l0.length : Int) 0
theorem impl_ExpireGrants.mono_l : ∀ k, (∀ y0 y1 y2 y3 y4, LeO (impl_ExpireGrants.l0 k y0 y1 y2 y3 y4) (impl_ExpireGrants.l0 (k + 1) y0 y1 y2 y3 y4))
  | 0 => fun _ _ _ _ _ r h => by simp [impl_ExpireGrants.l0] at h
  | k + 1 => by
    have ih0 := impl_ExpireGrants.mono_l k
    · intro y0 y1 y2 y3 y4
      unfold impl_ExpireGrants.l0
      repeat' first
      | (with_reducible exact ih0 _ _ _ _ _)
      | (with_reducible exact LeO.refl _)
      | (with_reducible exact LeO.none _)
      | (with_reducible refine LeO.ite ?_ ?_)
      | (with_reducible refine LeO.bind ?_ (fun _ => ?_))
      | exact ih0 _ _ _ _ _
      | exact LeO.none _
      | refine LeO.ite ?_ ?_
      | refine LeO.bind ?_ (fun _ => ?_)
theorem impl_ExpireGrants.mono : ∀ a0 a1 k, LeO (impl_ExpireGrants.f k a0 a1) (impl_ExpireGrants.f (k + 1) a0 a1) := by
  intro a0 a1 k
  have ih0 := impl_ExpireGrants.mono_l k
  unfold impl_ExpireGrants.f
  repeat' first
      | (with_reducible exact ih0 _ _ _ _ _)
      | (with_reducible exact LeO.refl _)
      | (with_reducible exact LeO.none _)
      | (with_reducible refine LeO.ite ?_ ?_)
      | (with_reducible refine LeO.bind ?_ (fun _ => ?_))
      | exact ih0 _ _ _ _ _
      | exact LeO.none _
      | refine LeO.ite ?_ ?_
      | refine LeO.bind ?_ (fun _ => ?_)
set_option maxHeartbeats 8000000 in
set_option maxRecDepth 100000 in
theorem impl_ExpireGrants.calls (k : Nat) (A0 : Option Addr) (c0 : Nat) (l0 : List (S48)) (a1 : Int) (r : List (S48)) (w : World) (hr0 : Kd.C k48 w A0 l0.length l0) (hc0 : l0.length ≤ c0) (h : impl_ExpireGrants.f k l0 a1 = some r) :
    Calls Try.prog 42 #[.slice A0 l0.length c0, .int .i64 a1] w fun e w' => ∃ v0_ : Value, e = .returned (v0_) ∧ Kd.R k48 48 w' w.heap.size (fun _ => True) v0_ r ∧ Below w.heap.size w w' := by
  have hu48 := Try.underlying48
  have HR0 := Aside0.mk hr0
  have HC0 := Aside0.mk hc0
  clear hr0 hc0
  have HB := am (Below.refl w.heap.size w)
  have H : (impl_ExpireGrants.l0 k a1 (([] : List (S48))) l0 (l0.length : Int) 0) = some r := h
  clear h
  obtain ⟨y341, hy341⟩ : ∃ y_ : List (S48), y_ = (([] : List (S48))) := ⟨_, rfl⟩
  replace H : (impl_ExpireGrants.l0 k a1 y341 l0 (l0.length : Int) 0) = some r := by first | (rw [hy341]; with_reducible exact H) | (have H2_ := (Option.bind_some _ _).symm.trans H; rw [hy341]; with_reducible exact H2_) | (have H2_ := (Option.bind_some _ _).symm.trans H; with_reducible exact H2_) | with_reducible exact H | (rw [hy341]; exact H) | exact H
  have Ny341 := Aside0.mk hy341
  clear hy341
  have H' := Aside0.mk H
  clear H
  go_enter Try.func42, Try.ntmps42
  go_wp2_with (first | ((with_reducible refine gate_dst (N := 8) rfl ?_); refine Kd.R_lit k48 _ 48 ?hg (N := 8) ?hd (xs := ([] : List (S48))) (inner := []) (ok := fun _ => True) (okp := fun _ => True) ?hr ?hp (fun _ hk => hk) trivial (Below.refl _ _) (Nat.le_refl _) (by simp) ?_; (case hd => rfl); (case hg => rfl); (case hr => first | (go_simp; done) | (go_simp; rfl)); (case hp => exact (Reps.none _ _)); intro v342 w3 ho4 hb hg_ hnew_; clear hg_ hnew_; (first | rw [← Ny341.out] at ho4 | (simp only [Int.reduceToNat] at ho4; rw [← Ny341.out] at ho4)); have n0_ := am (Kd.R_lower ho4 (below_size (by repeat (first | (with_reducible first | exact HB.out | apply below_alloc | apply pw_below_drewN | apply below_drew1) | exact HB.out)))); have n1_ := am (below_step (by repeat (first | (with_reducible first | exact HB.out | apply below_alloc | apply pw_below_drewN | apply below_drew1) | exact HB.out)) hb); clear HB; have HO343 := n0_; have HB := n1_; clear n0_ n1_; clear hb ho4))
  go_loopg [5, 11] k (fun kq v5 v11 w' => ∃ (x5_1 : List (S48)) (x11_1 : Int), v11 = .int .i64 x11_1 ∧ Aside0 (impl_ExpireGrants.l0 kq a1 x5_1 l0 (l0.length : Int) x11_1 = some r) ∧ Aside0 (kq ≤ k) ∧ Aside0 (Kd.R k48 48 w' w.heap.size (fun _ => True) v5 x5_1) ∧ Aside0 (Below w.heap.size w w'))
  case atStart => exact ⟨(y341), (0), (by first | rfl | (simp; done) | (simp [*]; done)), H', ⟨Nat.le_refl _⟩, ⟨by (with_reducible repeat (first | apply Kd.R_alloc | apply Kd.R_drewN | apply Kd.R_drew)); exact HO343.out⟩, ⟨by repeat (first | (with_reducible first | exact HB.out | apply below_alloc | apply pw_below_drewN | apply below_drew1) | exact HB.out)⟩⟩
  case round =>
    clear H'
    try clear p2
    try clear c4
    obtain ⟨x5_1, x11_1, rfl, HA, HK1, HO_5, HB⟩ := hrel
    cases gk with
    | zero => exact absurd HA.out (by simp [impl_ExpireGrants.l0])
    | succ k1 =>
      have H := HA.out
      clear HA
      simp only [impl_ExpireGrants.l0] at H
      by_cases c5 : x11_1 < (l0.length : Int)
      · rw [if_pos c5] at H
        have c5b0 : decide (x11_1 < (l0.length : Int)) = true := decide_eq_true c5
        clear c5
        by_cases c6 : 0 ≤ x11_1
        · rw [if_pos c6] at H
          have c6b0 : decide (0 ≤ x11_1) = true := decide_eq_true c6
          clear c6
          by_cases c7 : x11_1 < (l0.length : Int)
          · rw [if_pos c7] at H
            have c7b0 : decide (x11_1 < (l0.length : Int)) = true := decide_eq_true c7
            clear c7
            replace H := Option.bind_eq_some_iff.mp H
            obtain ⟨t346, A80, H⟩ := H
            replace H : (if t346 = true then (if ((rd_T48 l0 x11_1).f4) ≥ a1 then (if x5_1.length < 2513169434916 then (impl_ExpireGrants.l0 k1 a1 (x5_1 ++ [(⟨(rd_T48 l0 x11_1).f0, (⟨(rd_T48 l0 x11_1).f1.f0, (rd_T48 l0 x11_1).f1.f1⟩ : S32), (rd_T48 l0 x11_1).f2, (rd_T48 l0 x11_1).f3, (rd_T48 l0 x11_1).f4, (rd_T48 l0 x11_1).f5⟩ : S48)]) l0 (l0.length : Int) (wrap64 (x11_1 + 1))) else (none)) else (impl_ExpireGrants.l0 k1 a1 x5_1 l0 (l0.length : Int) (wrap64 (x11_1 + 1)))) else (impl_ExpireGrants.l0 k1 a1 x5_1 l0 (l0.length : Int) (wrap64 (x11_1 + 1)))) = some r := H
            have A8 := Aside0.mk A80
            clear A80
            by_cases c9 : t346 = true
            · subst c9
              have H1 : (if ((rd_T48 l0 x11_1).f4) ≥ a1 then (if x5_1.length < 2513169434916 then (impl_ExpireGrants.l0 k1 a1 (x5_1 ++ [(⟨(rd_T48 l0 x11_1).f0, (⟨(rd_T48 l0 x11_1).f1.f0, (rd_T48 l0 x11_1).f1.f1⟩ : S32), (rd_T48 l0 x11_1).f2, (rd_T48 l0 x11_1).f3, (rd_T48 l0 x11_1).f4, (rd_T48 l0 x11_1).f5⟩ : S48)]) l0 (l0.length : Int) (wrap64 (x11_1 + 1))) else (none)) else (impl_ExpireGrants.l0 k1 a1 x5_1 l0 (l0.length : Int) (wrap64 (x11_1 + 1)))) = some r := by rw [if_pos rfl] at H; exact H
              clear H
              have H := H1
              clear H1
              by_cases c10 : ((rd_T48 l0 x11_1).f4) ≥ a1
              · rw [if_pos c10] at H
                have c10b0 : decide (a1 ≤ ((rd_T48 l0 x11_1).f4)) = true := decide_eq_true c10
                clear c10
                by_cases c11 : x5_1.length < 2513169434916
                · rw [if_pos c11] at H
                  have LMc11 := Aside0.mk c11
                  clear c11
                  obtain ⟨y347, hy347⟩ : ∃ y_ : List (S48), y_ = (x5_1 ++ [(⟨(rd_T48 l0 x11_1).f0, (⟨(rd_T48 l0 x11_1).f1.f0, (rd_T48 l0 x11_1).f1.f1⟩ : S32), (rd_T48 l0 x11_1).f2, (rd_T48 l0 x11_1).f3, (rd_T48 l0 x11_1).f4, (rd_T48 l0 x11_1).f5⟩ : S48)]) := ⟨_, rfl⟩
                  replace H : (impl_ExpireGrants.l0 k1 a1 y347 l0 (l0.length : Int) (wrap64 (x11_1 + 1))) = some r := by first | (rw [hy347]; with_reducible exact H) | (have H2_ := (Option.bind_some _ _).symm.trans H; rw [hy347]; with_reducible exact H2_) | (have H2_ := (Option.bind_some _ _).symm.trans H; with_reducible exact H2_) | with_reducible exact H | (rw [hy347]; exact H) | exact H
                  have Ny347 := Aside0.mk hy347
                  clear hy347
                  have H' := Aside0.mk H
                  clear H
                  have p344 : 0 ≤ (x11_1 : Int) := of_decide_eq_true (by first | (with_reducible assumption) | assumption)
                  have q344 : x11_1 < (l0.length : Int) := of_decide_eq_true (by first | (with_reducible assumption) | assumption)
                  obtain ⟨ad344, e344, hx344_0, hx344_1, hx344_2, hx344_3, hx344_4, hx344_5, hx344_6⟩ := at_T48 HR0.out x11_1 p344 q344
                  cases e344
                  replace hx344_0 := (HB.out.cell (World.block_lt_of_cell? w _ hx344_0)).trans hx344_0
                  replace hx344_1 := (HB.out.cell (World.block_lt_of_cell? w _ hx344_1)).trans hx344_1
                  replace hx344_2 := (HB.out.cell (World.block_lt_of_cell? w _ hx344_2)).trans hx344_2
                  replace hx344_3 := (HB.out.cell (World.block_lt_of_cell? w _ hx344_3)).trans hx344_3
                  replace hx344_4 := (HB.out.cell (World.block_lt_of_cell? w _ hx344_4)).trans hx344_4
                  replace hx344_5 := (HB.out.cell (World.block_lt_of_cell? w _ hx344_5)).trans hx344_5
                  replace hx344_6 := (HB.out.cell (World.block_lt_of_cell? w _ hx344_6)).trans hx344_6
                  replace p344 := eq_true p344
                  replace q344 := eq_true q344
                  go_wp2_with (first | ((with_reducible refine gate_dst (N := 7) rfl ?_); refine box_event ?hg (N := 7) ?hd (cs := #[.int .i64 0, .int .i64 0, .int .i64 0, .int .i64 0, .int .i64 0, .int .i64 0, .bool false]) (t := 48) ?hr ?_; (case hd => rfl); (case hg => rfl); (case hr => first | (go_simp; done) | (go_simp; rfl)); intro gb345 hg w12 hbox hb; have n0_ := am (Kd.R_below (Kd.R_elderB (by (with_reducible repeat (first | apply Kd.R_alloc | apply Kd.R_drewN | apply Kd.R_drew)); exact HO_5.out) gb345 (Nat.le_of_eq hg.symm)) hb); have q_ := hbx_ (by repeat (first | (with_reducible first | exact HB.out | apply below_alloc | apply pw_below_drewN | apply below_drew1) | exact HB.out)) hg hb; have n1_ := q_.1; have n2_ := am (hbox); have n3_ := q_.2; have n4_ := n3_; clear HO_5; clear HB; have HO_5 := n0_; have HB := n1_; have BK345 := n2_; have GW345 := n3_; have GE345 := n4_; clear n0_ n1_ n2_ n3_ n4_; clear hb hbox hg; obtain ⟨hcz13_0, hcz13_1, hcz13_2, hcz13_3, hcz13_4, hcz13_5, hcz13_6, hfz13_0, hfz13_1, hfz13_2, hfz13_3, hfz13_4, hfz13_5, hfz13_6⟩ := blk7 BK345.out) | ((with_reducible refine gate_callee (f := 44) rfl ?_); refine goesL_ (some 16) rfl rfl Try.func44 (by kernel_rfl) rfl #[.agg #[.int .i64 ((rd_T48 l0 x11_1).f0), .int .i64 ((rd_T48 l0 x11_1).f1.f0), .int .i64 ((rd_T48 l0 x11_1).f1.f1), .int .i64 ((rd_T48 l0 x11_1).f2), .int .i64 ((rd_T48 l0 x11_1).f3), .int .i64 ((rd_T48 l0 x11_1).f4), .bool ((rd_T48 l0 x11_1).f5)]] rfl (by (try simp only [List.map_toArray, List.map_cons, List.map_nil]); first | done | rfl | (simp only [List.length_drop, List.length_take]; rfl)) ?_; (with_reducible refine (impl_IsGrant.calls ((rd_T48 l0 x11_1).f0) ((rd_T48 l0 x11_1).f1.f0) ((rd_T48 l0 x11_1).f1.f1) ((rd_T48 l0 x11_1).f2) ((rd_T48 l0 x11_1).f3) ((rd_T48 l0 x11_1).f4) ((rd_T48 l0 x11_1).f5) true _ A8.out).mono ?_); rintro e w14 ⟨rfl, hb⟩; refine ⟨_, rfl, ?_⟩; have n0_ := am (Kd.R_below (by (with_reducible repeat (first | apply Kd.R_alloc | apply Kd.R_drewN | apply Kd.R_drew)); exact (Kd.R_mono (Kd.R_far (p := ⟨gb345, 6, none⟩) (Kd.R_far (p := ⟨gb345, 5, none⟩) (Kd.R_far (p := ⟨gb345, 4, none⟩) (Kd.R_far (p := ⟨gb345, 3, none⟩) (Kd.R_far (p := ⟨gb345, 2, none⟩) (Kd.R_far (p := ⟨gb345, 1, none⟩) (Kd.R_far (p := ⟨gb345, 0, none⟩) (Kd.R_mono HO_5.out (fun k_ hk => (⟨hk, hk.2⟩ : _ ∧ k_ ≠ gb345))) (fun _ hk => hk.2) (.int .i64 ((rd_T48 l0 x11_1).f0))) (fun _ hk => hk.2) (.int .i64 ((rd_T48 l0 x11_1).f1.f0))) (fun _ hk => hk.2) (.int .i64 ((rd_T48 l0 x11_1).f1.f1))) (fun _ hk => hk.2) (.int .i64 ((rd_T48 l0 x11_1).f2))) (fun _ hk => hk.2) (.int .i64 ((rd_T48 l0 x11_1).f3))) (fun _ hk => hk.2) (.int .i64 ((rd_T48 l0 x11_1).f4))) (fun _ hk => hk.2) (.bool ((rd_T48 l0 x11_1).f5))) (fun _ h_ => h_.1))) hb); have n1_ := am (blk_below (g := gb345) (o := .cells #[.int .i64 ((rd_T48 l0 x11_1).f0), .int .i64 ((rd_T48 l0 x11_1).f1.f0), .int .i64 ((rd_T48 l0 x11_1).f1.f1), .int .i64 ((rd_T48 l0 x11_1).f2), .int .i64 ((rd_T48 l0 x11_1).f3), .int .i64 ((rd_T48 l0 x11_1).f4), .bool ((rd_T48 l0 x11_1).f5)] 48 (0, 0)) (by (with_reducible repeat (first | refine blk_drewN ?_ _ | refine blk_drew ?_ | refine blk_alloc ?_ _)); refine blk_put (cs := #[.int .i64 ((rd_T48 l0 x11_1).f0), .int .i64 ((rd_T48 l0 x11_1).f1.f0), .int .i64 ((rd_T48 l0 x11_1).f1.f1), .int .i64 ((rd_T48 l0 x11_1).f2), .int .i64 ((rd_T48 l0 x11_1).f3), .int .i64 ((rd_T48 l0 x11_1).f4), .bool false]) ?_ 6 _ rfl; (with_reducible repeat (first | refine blk_drewN ?_ _ | refine blk_drew ?_ | refine blk_alloc ?_ _)); refine blk_put (cs := #[.int .i64 ((rd_T48 l0 x11_1).f0), .int .i64 ((rd_T48 l0 x11_1).f1.f0), .int .i64 ((rd_T48 l0 x11_1).f1.f1), .int .i64 ((rd_T48 l0 x11_1).f2), .int .i64 ((rd_T48 l0 x11_1).f3), .int .i64 0, .bool false]) ?_ 5 _ rfl; (with_reducible repeat (first | refine blk_drewN ?_ _ | refine blk_drew ?_ | refine blk_alloc ?_ _)); refine blk_put (cs := #[.int .i64 ((rd_T48 l0 x11_1).f0), .int .i64 ((rd_T48 l0 x11_1).f1.f0), .int .i64 ((rd_T48 l0 x11_1).f1.f1), .int .i64 ((rd_T48 l0 x11_1).f2), .int .i64 0, .int .i64 0, .bool false]) ?_ 4 _ rfl; (with_reducible repeat (first | refine blk_drewN ?_ _ | refine blk_drew ?_ | refine blk_alloc ?_ _)); refine blk_put (cs := #[.int .i64 ((rd_T48 l0 x11_1).f0), .int .i64 ((rd_T48 l0 x11_1).f1.f0), .int .i64 ((rd_T48 l0 x11_1).f1.f1), .int .i64 0, .int .i64 0, .int .i64 0, .bool false]) ?_ 3 _ rfl; (with_reducible repeat (first | refine blk_drewN ?_ _ | refine blk_drew ?_ | refine blk_alloc ?_ _)); refine blk_put (cs := #[.int .i64 ((rd_T48 l0 x11_1).f0), .int .i64 ((rd_T48 l0 x11_1).f1.f0), .int .i64 0, .int .i64 0, .int .i64 0, .int .i64 0, .bool false]) ?_ 2 _ rfl; (with_reducible repeat (first | refine blk_drewN ?_ _ | refine blk_drew ?_ | refine blk_alloc ?_ _)); refine blk_put (cs := #[.int .i64 ((rd_T48 l0 x11_1).f0), .int .i64 0, .int .i64 0, .int .i64 0, .int .i64 0, .int .i64 0, .bool false]) ?_ 1 _ rfl; (with_reducible repeat (first | refine blk_drewN ?_ _ | refine blk_drew ?_ | refine blk_alloc ?_ _)); refine blk_put (cs := #[.int .i64 0, .int .i64 0, .int .i64 0, .int .i64 0, .int .i64 0, .int .i64 0, .bool false]) ?_ 0 _ rfl; (with_reducible repeat (first | refine blk_drewN ?_ _ | refine blk_drew ?_ | refine blk_alloc ?_ _)); exact BK345.out) hb); have n2_ := am (below_step (by repeat (first | (with_reducible first | exact HB.out | apply below_alloc | apply pw_below_drewN | apply below_drew1 | refine below_set ?_ GE345.out) | exact HB.out)) hb); clear HO_5; clear BK345; clear HB; have HO_5 := n0_; have BK345 := n1_; have HB := n2_; clear n0_ n1_ n2_; (try clear hb); (try clear hb2); (try clear hk); (try clear hi); obtain ⟨hcz15_0, hcz15_1, hcz15_2, hcz15_3, hcz15_4, hcz15_5, hcz15_6, hfz15_0, hfz15_1, hfz15_2, hfz15_3, hfz15_4, hfz15_5, hfz15_6⟩ := blk7 BK345.out) | ((with_reducible refine gate_builtin (b := .append) (xs := #[.tmp 23, .tmp 25]) rfl ?_); at_builtin; refine Kd.R_append k48 (w0 := w) w.heap.size rfl (.tmp 23) (.tmp 25) 43 48 (.agg #[(.int .i64 0), (.int .i64 0), (.int .i64 0), (.int .i64 0), (.int .i64 0), (.int .i64 0), (.bool false)]) 56 rfl Try.underlying43 info48 rfl (by decide) (by omega) u5 x5_1 (⟨(rd_T48 l0 x11_1).f0, (⟨(rd_T48 l0 x11_1).f1.f0, (rd_T48 l0 x11_1).f1.f1⟩ : S32), (rd_T48 l0 x11_1).f2, (rd_T48 l0 x11_1).f3, (rd_T48 l0 x11_1).f4, (rd_T48 l0 x11_1).f5⟩ : S48) [.int .i64 ((rd_T48 l0 x11_1).f0), .int .i64 ((rd_T48 l0 x11_1).f1.f0), .int .i64 ((rd_T48 l0 x11_1).f1.f1), .int .i64 ((rd_T48 l0 x11_1).f2), .int .i64 ((rd_T48 l0 x11_1).f3), .int .i64 ((rd_T48 l0 x11_1).f4), .bool ((rd_T48 l0 x11_1).f5)] (fun k_ => k_ ≠ gb345) (fun _ => False) rfl rfl ?aP (fun _ hk => hk.elim) ?aF ?aO ?aB ?aS ?aL ?_; (case aP => exact k48_mkM _ _ _ (⟨(rd_T48 l0 x11_1).f0, (⟨(rd_T48 l0 x11_1).f1.f0, (rd_T48 l0 x11_1).f1.f1⟩ : S32), (rd_T48 l0 x11_1).f2, (rd_T48 l0 x11_1).f3, (rd_T48 l0 x11_1).f4, (rd_T48 l0 x11_1).f5⟩ : S48)); (case aB => exact (by repeat (first | (with_reducible first | exact HB.out | apply below_alloc | apply pw_below_drewN | apply below_drew1 | refine below_set ?_ GE345.out) | exact HB.out))); (case aF => exact (fun k_ hk => Kd.freshB (g := gb345) (o := .cells #[.int .i64 ((rd_T48 l0 x11_1).f0), .int .i64 ((rd_T48 l0 x11_1).f1.f0), .int .i64 ((rd_T48 l0 x11_1).f1.f1), .int .i64 ((rd_T48 l0 x11_1).f2), .int .i64 ((rd_T48 l0 x11_1).f3), .int .i64 ((rd_T48 l0 x11_1).f4), .bool ((rd_T48 l0 x11_1).f5)] 48 (0, 0)) (by (with_reducible repeat (first | refine blk_drewN ?_ _ | refine blk_drew ?_ | refine blk_alloc ?_ _)); exact BK345.out) k_ hk)); (case aO => exact (by (with_reducible repeat (first | apply Kd.R_alloc | apply Kd.R_drewN | apply Kd.R_drew)); exact Kd.R_mono HO_5.out (fun _ hk => hk.2))); (case aS => exact (below_size (by repeat (first | (with_reducible first | exact HB.out | apply below_alloc | apply pw_below_drewN | apply below_drew1 | refine below_set ?_ GE345.out) | exact HB.out)))); (case aL => have := LMc11.out; omega); intro v348 w16 ho hb hg hat; rw [← Ny347.out] at ho; have n0_ := am (blk_grown (g := gb345) (o := .cells #[.int .i64 ((rd_T48 l0 x11_1).f0), .int .i64 ((rd_T48 l0 x11_1).f1.f0), .int .i64 ((rd_T48 l0 x11_1).f1.f1), .int .i64 ((rd_T48 l0 x11_1).f2), .int .i64 ((rd_T48 l0 x11_1).f3), .int .i64 ((rd_T48 l0 x11_1).f4), .bool ((rd_T48 l0 x11_1).f5)] 48 (0, 0)) (by (with_reducible repeat (first | refine blk_drewN ?_ _ | refine blk_drew ?_ | refine blk_alloc ?_ _)); exact BK345.out) hg (Kd.R_away HO_5.out (fun _ hk => hk.2))); have n1_ := am (hb); have n2_ := am (ho); clear BK345; clear HB; clear HO_5; have BK345 := n0_; have HB := n1_; have HO349 := n2_; clear n0_ n1_ n2_; clear ho hb hg hat))
                  go_roundg k1
                  case measure => have := HK1.out; omega
                  case rel => exact ⟨(y347), (wrap64 (x11_1 + 1)), (by first | rfl | (simp; done) | (simp [*]; done)), H', ⟨by have := HK1.out; omega⟩, ⟨by (with_reducible repeat (first | apply Kd.R_alloc | apply Kd.R_drewN | apply Kd.R_drew)); exact Kd.R_mono HO349.out (fun _ hk => trivial)⟩, ⟨by repeat (first | (with_reducible first | exact HB.out | apply below_alloc | apply pw_below_drewN | apply below_drew1 | refine below_set ?_ GE345.out) | exact HB.out)⟩⟩
                · rw [if_neg c11] at H
                  exact absurd H (by simp)
              · rw [if_neg c10] at H
                have c10b0 : decide (a1 ≤ ((rd_T48 l0 x11_1).f4)) = false := decide_eq_false c10
                clear c10
                have H' := Aside0.mk H
                clear H
                have p344 : 0 ≤ (x11_1 : Int) := of_decide_eq_true (by first | (with_reducible assumption) | assumption)
                have q344 : x11_1 < (l0.length : Int) := of_decide_eq_true (by first | (with_reducible assumption) | assumption)
                obtain ⟨ad344, e344, hx344_0, hx344_1, hx344_2, hx344_3, hx344_4, hx344_5, hx344_6⟩ := at_T48 HR0.out x11_1 p344 q344
                cases e344
                replace hx344_0 := (HB.out.cell (World.block_lt_of_cell? w _ hx344_0)).trans hx344_0
                replace hx344_1 := (HB.out.cell (World.block_lt_of_cell? w _ hx344_1)).trans hx344_1
                replace hx344_2 := (HB.out.cell (World.block_lt_of_cell? w _ hx344_2)).trans hx344_2
                replace hx344_3 := (HB.out.cell (World.block_lt_of_cell? w _ hx344_3)).trans hx344_3
                replace hx344_4 := (HB.out.cell (World.block_lt_of_cell? w _ hx344_4)).trans hx344_4
                replace hx344_5 := (HB.out.cell (World.block_lt_of_cell? w _ hx344_5)).trans hx344_5
                replace hx344_6 := (HB.out.cell (World.block_lt_of_cell? w _ hx344_6)).trans hx344_6
                replace p344 := eq_true p344
                replace q344 := eq_true q344
                go_wp2_with (first | ((with_reducible refine gate_dst (N := 7) rfl ?_); refine box_event ?hg (N := 7) ?hd (cs := #[.int .i64 0, .int .i64 0, .int .i64 0, .int .i64 0, .int .i64 0, .int .i64 0, .bool false]) (t := 48) ?hr ?_; (case hd => rfl); (case hg => rfl); (case hr => first | (go_simp; done) | (go_simp; rfl)); intro gb345 hg w17 hbox hb; have n0_ := am (Kd.R_below (Kd.R_elderB (by (with_reducible repeat (first | apply Kd.R_alloc | apply Kd.R_drewN | apply Kd.R_drew)); exact HO_5.out) gb345 (Nat.le_of_eq hg.symm)) hb); have q_ := hbx_ (by repeat (first | (with_reducible first | exact HB.out | apply below_alloc | apply pw_below_drewN | apply below_drew1) | exact HB.out)) hg hb; have n1_ := q_.1; have n2_ := am (hbox); have n3_ := q_.2; have n4_ := n3_; clear HO_5; clear HB; have HO_5 := n0_; have HB := n1_; have BK345 := n2_; have GW345 := n3_; have GE345 := n4_; clear n0_ n1_ n2_ n3_ n4_; clear hb hbox hg; obtain ⟨hcz18_0, hcz18_1, hcz18_2, hcz18_3, hcz18_4, hcz18_5, hcz18_6, hfz18_0, hfz18_1, hfz18_2, hfz18_3, hfz18_4, hfz18_5, hfz18_6⟩ := blk7 BK345.out) | ((with_reducible refine gate_callee (f := 44) rfl ?_); refine goesL_ (some 16) rfl rfl Try.func44 (by kernel_rfl) rfl #[.agg #[.int .i64 ((rd_T48 l0 x11_1).f0), .int .i64 ((rd_T48 l0 x11_1).f1.f0), .int .i64 ((rd_T48 l0 x11_1).f1.f1), .int .i64 ((rd_T48 l0 x11_1).f2), .int .i64 ((rd_T48 l0 x11_1).f3), .int .i64 ((rd_T48 l0 x11_1).f4), .bool ((rd_T48 l0 x11_1).f5)]] rfl (by (try simp only [List.map_toArray, List.map_cons, List.map_nil]); first | done | rfl | (simp only [List.length_drop, List.length_take]; rfl)) ?_; (with_reducible refine (impl_IsGrant.calls ((rd_T48 l0 x11_1).f0) ((rd_T48 l0 x11_1).f1.f0) ((rd_T48 l0 x11_1).f1.f1) ((rd_T48 l0 x11_1).f2) ((rd_T48 l0 x11_1).f3) ((rd_T48 l0 x11_1).f4) ((rd_T48 l0 x11_1).f5) true _ A8.out).mono ?_); rintro e w19 ⟨rfl, hb⟩; refine ⟨_, rfl, ?_⟩; have n0_ := am (Kd.R_below (by (with_reducible repeat (first | apply Kd.R_alloc | apply Kd.R_drewN | apply Kd.R_drew)); exact (Kd.R_mono (Kd.R_far (p := ⟨gb345, 6, none⟩) (Kd.R_far (p := ⟨gb345, 5, none⟩) (Kd.R_far (p := ⟨gb345, 4, none⟩) (Kd.R_far (p := ⟨gb345, 3, none⟩) (Kd.R_far (p := ⟨gb345, 2, none⟩) (Kd.R_far (p := ⟨gb345, 1, none⟩) (Kd.R_far (p := ⟨gb345, 0, none⟩) (Kd.R_mono HO_5.out (fun k_ hk => (⟨hk, hk.2⟩ : _ ∧ k_ ≠ gb345))) (fun _ hk => hk.2) (.int .i64 ((rd_T48 l0 x11_1).f0))) (fun _ hk => hk.2) (.int .i64 ((rd_T48 l0 x11_1).f1.f0))) (fun _ hk => hk.2) (.int .i64 ((rd_T48 l0 x11_1).f1.f1))) (fun _ hk => hk.2) (.int .i64 ((rd_T48 l0 x11_1).f2))) (fun _ hk => hk.2) (.int .i64 ((rd_T48 l0 x11_1).f3))) (fun _ hk => hk.2) (.int .i64 ((rd_T48 l0 x11_1).f4))) (fun _ hk => hk.2) (.bool ((rd_T48 l0 x11_1).f5))) (fun _ h_ => h_.1))) hb); have n1_ := am (blk_below (g := gb345) (o := .cells #[.int .i64 ((rd_T48 l0 x11_1).f0), .int .i64 ((rd_T48 l0 x11_1).f1.f0), .int .i64 ((rd_T48 l0 x11_1).f1.f1), .int .i64 ((rd_T48 l0 x11_1).f2), .int .i64 ((rd_T48 l0 x11_1).f3), .int .i64 ((rd_T48 l0 x11_1).f4), .bool ((rd_T48 l0 x11_1).f5)] 48 (0, 0)) (by (with_reducible repeat (first | refine blk_drewN ?_ _ | refine blk_drew ?_ | refine blk_alloc ?_ _)); refine blk_put (cs := #[.int .i64 ((rd_T48 l0 x11_1).f0), .int .i64 ((rd_T48 l0 x11_1).f1.f0), .int .i64 ((rd_T48 l0 x11_1).f1.f1), .int .i64 ((rd_T48 l0 x11_1).f2), .int .i64 ((rd_T48 l0 x11_1).f3), .int .i64 ((rd_T48 l0 x11_1).f4), .bool false]) ?_ 6 _ rfl; (with_reducible repeat (first | refine blk_drewN ?_ _ | refine blk_drew ?_ | refine blk_alloc ?_ _)); refine blk_put (cs := #[.int .i64 ((rd_T48 l0 x11_1).f0), .int .i64 ((rd_T48 l0 x11_1).f1.f0), .int .i64 ((rd_T48 l0 x11_1).f1.f1), .int .i64 ((rd_T48 l0 x11_1).f2), .int .i64 ((rd_T48 l0 x11_1).f3), .int .i64 0, .bool false]) ?_ 5 _ rfl; (with_reducible repeat (first | refine blk_drewN ?_ _ | refine blk_drew ?_ | refine blk_alloc ?_ _)); refine blk_put (cs := #[.int .i64 ((rd_T48 l0 x11_1).f0), .int .i64 ((rd_T48 l0 x11_1).f1.f0), .int .i64 ((rd_T48 l0 x11_1).f1.f1), .int .i64 ((rd_T48 l0 x11_1).f2), .int .i64 0, .int .i64 0, .bool false]) ?_ 4 _ rfl; (with_reducible repeat (first | refine blk_drewN ?_ _ | refine blk_drew ?_ | refine blk_alloc ?_ _)); refine blk_put (cs := #[.int .i64 ((rd_T48 l0 x11_1).f0), .int .i64 ((rd_T48 l0 x11_1).f1.f0), .int .i64 ((rd_T48 l0 x11_1).f1.f1), .int .i64 0, .int .i64 0, .int .i64 0, .bool false]) ?_ 3 _ rfl; (with_reducible repeat (first | refine blk_drewN ?_ _ | refine blk_drew ?_ | refine blk_alloc ?_ _)); refine blk_put (cs := #[.int .i64 ((rd_T48 l0 x11_1).f0), .int .i64 ((rd_T48 l0 x11_1).f1.f0), .int .i64 0, .int .i64 0, .int .i64 0, .int .i64 0, .bool false]) ?_ 2 _ rfl; (with_reducible repeat (first | refine blk_drewN ?_ _ | refine blk_drew ?_ | refine blk_alloc ?_ _)); refine blk_put (cs := #[.int .i64 ((rd_T48 l0 x11_1).f0), .int .i64 0, .int .i64 0, .int .i64 0, .int .i64 0, .int .i64 0, .bool false]) ?_ 1 _ rfl; (with_reducible repeat (first | refine blk_drewN ?_ _ | refine blk_drew ?_ | refine blk_alloc ?_ _)); refine blk_put (cs := #[.int .i64 0, .int .i64 0, .int .i64 0, .int .i64 0, .int .i64 0, .int .i64 0, .bool false]) ?_ 0 _ rfl; (with_reducible repeat (first | refine blk_drewN ?_ _ | refine blk_drew ?_ | refine blk_alloc ?_ _)); exact BK345.out) hb); have n2_ := am (below_step (by repeat (first | (with_reducible first | exact HB.out | apply below_alloc | apply pw_below_drewN | apply below_drew1 | refine below_set ?_ GE345.out) | exact HB.out)) hb); clear HO_5; clear BK345; clear HB; have HO_5 := n0_; have BK345 := n1_; have HB := n2_; clear n0_ n1_ n2_; (try clear hb); (try clear hb2); (try clear hk); (try clear hi); obtain ⟨hcz20_0, hcz20_1, hcz20_2, hcz20_3, hcz20_4, hcz20_5, hcz20_6, hfz20_0, hfz20_1, hfz20_2, hfz20_3, hfz20_4, hfz20_5, hfz20_6⟩ := blk7 BK345.out))
                go_roundg k1
                case measure => have := HK1.out; omega
                case rel => exact ⟨(x5_1), (wrap64 (x11_1 + 1)), (by first | rfl | (simp; done) | (simp [*]; done)), H', ⟨by have := HK1.out; omega⟩, ⟨by (with_reducible repeat (first | apply Kd.R_alloc | apply Kd.R_drewN | apply Kd.R_drew)); exact Kd.R_mono HO_5.out (fun _ hk => trivial)⟩, ⟨by repeat (first | (with_reducible first | exact HB.out | apply below_alloc | apply pw_below_drewN | apply below_drew1 | refine below_set ?_ GE345.out) | exact HB.out)⟩⟩
            · replace c9 := Bool.eq_false_iff.mpr c9
              subst c9
              have H1 : (impl_ExpireGrants.l0 k1 a1 x5_1 l0 (l0.length : Int) (wrap64 (x11_1 + 1))) = some r := by rw [if_neg (show ¬ (false = true) by decide)] at H; exact H
              clear H
              have H := H1
              clear H1
              have H' := Aside0.mk H
              clear H
              have p344 : 0 ≤ (x11_1 : Int) := of_decide_eq_true (by first | (with_reducible assumption) | assumption)
              have q344 : x11_1 < (l0.length : Int) := of_decide_eq_true (by first | (with_reducible assumption) | assumption)
              obtain ⟨ad344, e344, hx344_0, hx344_1, hx344_2, hx344_3, hx344_4, hx344_5, hx344_6⟩ := at_T48 HR0.out x11_1 p344 q344
              cases e344
              replace hx344_0 := (HB.out.cell (World.block_lt_of_cell? w _ hx344_0)).trans hx344_0
              replace hx344_1 := (HB.out.cell (World.block_lt_of_cell? w _ hx344_1)).trans hx344_1
              replace hx344_2 := (HB.out.cell (World.block_lt_of_cell? w _ hx344_2)).trans hx344_2
              replace hx344_3 := (HB.out.cell (World.block_lt_of_cell? w _ hx344_3)).trans hx344_3
              replace hx344_4 := (HB.out.cell (World.block_lt_of_cell? w _ hx344_4)).trans hx344_4
              replace hx344_5 := (HB.out.cell (World.block_lt_of_cell? w _ hx344_5)).trans hx344_5
              replace hx344_6 := (HB.out.cell (World.block_lt_of_cell? w _ hx344_6)).trans hx344_6
              replace p344 := eq_true p344
              replace q344 := eq_true q344
              go_wp2_with (first | ((with_reducible refine gate_dst (N := 7) rfl ?_); refine box_event ?hg (N := 7) ?hd (cs := #[.int .i64 0, .int .i64 0, .int .i64 0, .int .i64 0, .int .i64 0, .int .i64 0, .bool false]) (t := 48) ?hr ?_; (case hd => rfl); (case hg => rfl); (case hr => first | (go_simp; done) | (go_simp; rfl)); intro gb345 hg w21 hbox hb; have n0_ := am (Kd.R_below (Kd.R_elderB (by (with_reducible repeat (first | apply Kd.R_alloc | apply Kd.R_drewN | apply Kd.R_drew)); exact HO_5.out) gb345 (Nat.le_of_eq hg.symm)) hb); have q_ := hbx_ (by repeat (first | (with_reducible first | exact HB.out | apply below_alloc | apply pw_below_drewN | apply below_drew1) | exact HB.out)) hg hb; have n1_ := q_.1; have n2_ := am (hbox); have n3_ := q_.2; have n4_ := n3_; clear HO_5; clear HB; have HO_5 := n0_; have HB := n1_; have BK345 := n2_; have GW345 := n3_; have GE345 := n4_; clear n0_ n1_ n2_ n3_ n4_; clear hb hbox hg; obtain ⟨hcz22_0, hcz22_1, hcz22_2, hcz22_3, hcz22_4, hcz22_5, hcz22_6, hfz22_0, hfz22_1, hfz22_2, hfz22_3, hfz22_4, hfz22_5, hfz22_6⟩ := blk7 BK345.out) | ((with_reducible refine gate_callee (f := 44) rfl ?_); refine goesL_ (some 16) rfl rfl Try.func44 (by kernel_rfl) rfl #[.agg #[.int .i64 ((rd_T48 l0 x11_1).f0), .int .i64 ((rd_T48 l0 x11_1).f1.f0), .int .i64 ((rd_T48 l0 x11_1).f1.f1), .int .i64 ((rd_T48 l0 x11_1).f2), .int .i64 ((rd_T48 l0 x11_1).f3), .int .i64 ((rd_T48 l0 x11_1).f4), .bool ((rd_T48 l0 x11_1).f5)]] rfl (by (try simp only [List.map_toArray, List.map_cons, List.map_nil]); first | done | rfl | (simp only [List.length_drop, List.length_take]; rfl)) ?_; (with_reducible refine (impl_IsGrant.calls ((rd_T48 l0 x11_1).f0) ((rd_T48 l0 x11_1).f1.f0) ((rd_T48 l0 x11_1).f1.f1) ((rd_T48 l0 x11_1).f2) ((rd_T48 l0 x11_1).f3) ((rd_T48 l0 x11_1).f4) ((rd_T48 l0 x11_1).f5) false _ A8.out).mono ?_); rintro e w23 ⟨rfl, hb⟩; refine ⟨_, rfl, ?_⟩; have n0_ := am (Kd.R_below (by (with_reducible repeat (first | apply Kd.R_alloc | apply Kd.R_drewN | apply Kd.R_drew)); exact (Kd.R_mono (Kd.R_far (p := ⟨gb345, 6, none⟩) (Kd.R_far (p := ⟨gb345, 5, none⟩) (Kd.R_far (p := ⟨gb345, 4, none⟩) (Kd.R_far (p := ⟨gb345, 3, none⟩) (Kd.R_far (p := ⟨gb345, 2, none⟩) (Kd.R_far (p := ⟨gb345, 1, none⟩) (Kd.R_far (p := ⟨gb345, 0, none⟩) (Kd.R_mono HO_5.out (fun k_ hk => (⟨hk, hk.2⟩ : _ ∧ k_ ≠ gb345))) (fun _ hk => hk.2) (.int .i64 ((rd_T48 l0 x11_1).f0))) (fun _ hk => hk.2) (.int .i64 ((rd_T48 l0 x11_1).f1.f0))) (fun _ hk => hk.2) (.int .i64 ((rd_T48 l0 x11_1).f1.f1))) (fun _ hk => hk.2) (.int .i64 ((rd_T48 l0 x11_1).f2))) (fun _ hk => hk.2) (.int .i64 ((rd_T48 l0 x11_1).f3))) (fun _ hk => hk.2) (.int .i64 ((rd_T48 l0 x11_1).f4))) (fun _ hk => hk.2) (.bool ((rd_T48 l0 x11_1).f5))) (fun _ h_ => h_.1))) hb); have n1_ := am (blk_below (g := gb345) (o := .cells #[.int .i64 ((rd_T48 l0 x11_1).f0), .int .i64 ((rd_T48 l0 x11_1).f1.f0), .int .i64 ((rd_T48 l0 x11_1).f1.f1), .int .i64 ((rd_T48 l0 x11_1).f2), .int .i64 ((rd_T48 l0 x11_1).f3), .int .i64 ((rd_T48 l0 x11_1).f4), .bool ((rd_T48 l0 x11_1).f5)] 48 (0, 0)) (by (with_reducible repeat (first | refine blk_drewN ?_ _ | refine blk_drew ?_ | refine blk_alloc ?_ _)); refine blk_put (cs := #[.int .i64 ((rd_T48 l0 x11_1).f0), .int .i64 ((rd_T48 l0 x11_1).f1.f0), .int .i64 ((rd_T48 l0 x11_1).f1.f1), .int .i64 ((rd_T48 l0 x11_1).f2), .int .i64 ((rd_T48 l0 x11_1).f3), .int .i64 ((rd_T48 l0 x11_1).f4), .bool false]) ?_ 6 _ rfl; (with_reducible repeat (first | refine blk_drewN ?_ _ | refine blk_drew ?_ | refine blk_alloc ?_ _)); refine blk_put (cs := #[.int .i64 ((rd_T48 l0 x11_1).f0), .int .i64 ((rd_T48 l0 x11_1).f1.f0), .int .i64 ((rd_T48 l0 x11_1).f1.f1), .int .i64 ((rd_T48 l0 x11_1).f2), .int .i64 ((rd_T48 l0 x11_1).f3), .int .i64 0, .bool false]) ?_ 5 _ rfl; (with_reducible repeat (first | refine blk_drewN ?_ _ | refine blk_drew ?_ | refine blk_alloc ?_ _)); refine blk_put (cs := #[.int .i64 ((rd_T48 l0 x11_1).f0), .int .i64 ((rd_T48 l0 x11_1).f1.f0), .int .i64 ((rd_T48 l0 x11_1).f1.f1), .int .i64 ((rd_T48 l0 x11_1).f2), .int .i64 0, .int .i64 0, .bool false]) ?_ 4 _ rfl; (with_reducible repeat (first | refine blk_drewN ?_ _ | refine blk_drew ?_ | refine blk_alloc ?_ _)); refine blk_put (cs := #[.int .i64 ((rd_T48 l0 x11_1).f0), .int .i64 ((rd_T48 l0 x11_1).f1.f0), .int .i64 ((rd_T48 l0 x11_1).f1.f1), .int .i64 0, .int .i64 0, .int .i64 0, .bool false]) ?_ 3 _ rfl; (with_reducible repeat (first | refine blk_drewN ?_ _ | refine blk_drew ?_ | refine blk_alloc ?_ _)); refine blk_put (cs := #[.int .i64 ((rd_T48 l0 x11_1).f0), .int .i64 ((rd_T48 l0 x11_1).f1.f0), .int .i64 0, .int .i64 0, .int .i64 0, .int .i64 0, .bool false]) ?_ 2 _ rfl; (with_reducible repeat (first | refine blk_drewN ?_ _ | refine blk_drew ?_ | refine blk_alloc ?_ _)); refine blk_put (cs := #[.int .i64 ((rd_T48 l0 x11_1).f0), .int .i64 0, .int .i64 0, .int .i64 0, .int .i64 0, .int .i64 0, .bool false]) ?_ 1 _ rfl; (with_reducible repeat (first | refine blk_drewN ?_ _ | refine blk_drew ?_ | refine blk_alloc ?_ _)); refine blk_put (cs := #[.int .i64 0, .int .i64 0, .int .i64 0, .int .i64 0, .int .i64 0, .int .i64 0, .bool false]) ?_ 0 _ rfl; (with_reducible repeat (first | refine blk_drewN ?_ _ | refine blk_drew ?_ | refine blk_alloc ?_ _)); exact BK345.out) hb); have n2_ := am (below_step (by repeat (first | (with_reducible first | exact HB.out | apply below_alloc | apply pw_below_drewN | apply below_drew1 | refine below_set ?_ GE345.out) | exact HB.out)) hb); clear HO_5; clear BK345; clear HB; have HO_5 := n0_; have BK345 := n1_; have HB := n2_; clear n0_ n1_ n2_; (try clear hb); (try clear hb2); (try clear hk); (try clear hi)))
              go_roundg k1
              case measure => have := HK1.out; omega
              case rel => exact ⟨(x5_1), (wrap64 (x11_1 + 1)), (by first | rfl | (simp; done) | (simp [*]; done)), H', ⟨by have := HK1.out; omega⟩, ⟨by (with_reducible repeat (first | apply Kd.R_alloc | apply Kd.R_drewN | apply Kd.R_drew)); exact Kd.R_mono HO_5.out (fun _ hk => trivial)⟩, ⟨by repeat (first | (with_reducible first | exact HB.out | apply below_alloc | apply pw_below_drewN | apply below_drew1 | refine below_set ?_ GE345.out) | exact HB.out)⟩⟩
          · rw [if_neg c7] at H
            exact absurd H (by simp)
        · rw [if_neg c6] at H
          exact absurd H (by simp)
      · rw [if_neg c5] at H
        have c5b0 : decide (x11_1 < (l0.length : Int)) = false := decide_eq_false c5
        clear c5
        obtain rfl := Option.some.inj H
        go_wp2
        go_ret
        exact ⟨_, by first | rfl | (simp [errW_none, errW_some] <;> rfl) | (simp [*, errW_none, errW_some] <;> rfl), by (with_reducible repeat (first | apply Kd.R_alloc | apply Kd.R_drewN | apply Kd.R_drew)); exact HO_5.out, by repeat (first | (with_reducible first | exact HB.out | apply below_alloc | apply pw_below_drewN | apply below_drew1) | exact HB.out)⟩

end Go.Proofs.Ytacgichgadoddaa.QI
