/- Go functions as Lean functions, each with its walk; printed by a program of this session (a scratch copy of print.py that follows nested field addresses and tells a law for the answer true). -/
import Derived.Test.YtacgichgadoddaaQMx0
import Derived.Test.YtacgichgadoddaaQMxM0
namespace Go.Proofs.Ytacgichgadoddaa.QM
open Go.RowKit Go.Proofs.YtacgichgadoddaaW.PrintWords Go.Proofs.YtacgichgadoddaaW.PrintLast Go.Proofs.YtacgichgadoddaaW.PrintMore Go.Proofs.Ytacgichgadoddaa.Short
attribute [local go_sem] max2_int min2_int max_two min_two max_three min_three max_four min_four   -- for this text's walks alone
set_option linter.unusedVariables false
set_option linter.unusedSimpArgs false

/-! ### spec_DrawLendGrants: function 105 -/
def spec_DrawLendGrants.f (k : Nat) (l0 : List Int) : Option (Int × Int × Int × Int) := (spec_l1New.f k l0).bind fun bt331 => ((spec_l9Site.f bt331.1 bt331.2.1 bt331.2.2).bind fun bt335 => ((spec_l1Int.f bt331.1 bt335.2.2.1 bt335.2.2.2 (([1, 2, 5, 0, 6] : List Int))).bind fun bt343 => ((spec_l1Once.f bt331.1 bt343.2.1 bt343.2.2 9).bind fun bt346 => (if bt346.1 = true then ((spec_l1Int.f bt331.1 bt346.2.1 bt346.2.2 (([0, 3, 9995, 9996, (-1)] : List Int))).bind fun bt352 => (some (bt343.1, bt335.1, 10, bt352.1))) else ((spec_l1Int.f bt331.1 bt346.2.1 bt346.2.2 (([0, 3, 9995, 9996, (-1)] : List Int))).bind fun bt358 => (some (bt343.1, bt335.1, bt335.2.1, bt358.1)))))))
theorem spec_DrawLendGrants.mono : ∀ a0 k, LeO (spec_DrawLendGrants.f k a0) (spec_DrawLendGrants.f (k + 1) a0) := by
  intro a0 k
  unfold spec_DrawLendGrants.f
  repeat' first
      | (with_reducible exact spec_l1New.mono _ _)
      | (with_reducible exact LeO.refl _)
      | (with_reducible exact LeO.none _)
      | (with_reducible refine LeO.ite ?_ ?_)
      | (with_reducible refine LeO.bind ?_ (fun _ => ?_))
      | exact spec_l1New.mono _ _
      | exact LeO.none _
      | refine LeO.ite ?_ ?_
      | refine LeO.bind ?_ (fun _ => ?_)
def spec_DrawLendGrants.T6 : Bool × List (List Nat × List Nat) := (true, [([], []), ([], []), ([], []), ([], []), ([2, 3], [2, 3]), ([0, 4, 0], [0]), ([1, 5, 0, 1, 5], [1]), ([4, 6, 0, 1, 2, 3, 4, 5, 6], [4])])
def spec_DrawLendGrants.B6 : List Nat := [0, 0, 0, 0, 12, 29, 63, 127]
theorem spec_DrawLendGrants.tab6 : rtab .any (opsOf Try.f105 6) = spec_DrawLendGrants.T6 := by kernel_rfl
theorem spec_DrawLendGrants.bits6 : waitsOk spec_DrawLendGrants.T6.2 spec_DrawLendGrants.B6 = true := by kernel_rfl
set_option maxHeartbeats 8000000 in
set_option maxRecDepth 100000 in
theorem spec_DrawLendGrants.calls (k : Nat) (A0 : Option Addr) (c0 : Nat) (l0 : List Int) (r1 : Int) (r2 : Int) (r3 : Int) (r4 : Int) (w : World) (hr0 : Kd.C (Kd.int .u8) w A0 l0.length l0) (hc0 : l0.length ≤ c0) (h : spec_DrawLendGrants.f k l0 = some (r1, r2, r3, r4)) :
    Calls Try.prog 105 #[.slice A0 l0.length c0] w fun e w' => e = .returned (.tuple #[.int .i64 r1, .agg #[.int .i64 r2, .int .i64 r3], .int .i64 r4]) ∧ Below w.heap.size w w' := by
  have hu33 := Try.underlying33
  have HR0 := Aside0.mk hr0
  have HC0 := Aside0.mk hc0
  clear hr0 hc0
  have HB := am (Below.refl w.heap.size w)
  have H : ((spec_l1New.f k l0).bind fun bt331 => ((spec_l9Site.f bt331.1 bt331.2.1 bt331.2.2).bind fun bt335 => ((spec_l1Int.f bt331.1 bt335.2.2.1 bt335.2.2.2 (([1, 2, 5, 0, 6] : List Int))).bind fun bt343 => ((spec_l1Once.f bt331.1 bt343.2.1 bt343.2.2 9).bind fun bt346 => (if bt346.1 = true then ((spec_l1Int.f bt331.1 bt346.2.1 bt346.2.2 (([0, 3, 9995, 9996, (-1)] : List Int))).bind fun bt352 => (some (bt343.1, bt335.1, 10, bt352.1))) else ((spec_l1Int.f bt331.1 bt346.2.1 bt346.2.2 (([0, 3, 9995, 9996, (-1)] : List Int))).bind fun bt358 => (some (bt343.1, bt335.1, bt335.2.1, bt358.1)))))))) = some (r1, r2, r3, r4) := h
  clear h
  replace H := Option.bind_eq_some_iff.mp H
  obtain ⟨⟨t331, t332, t333⟩, A20, H⟩ := H
  replace H : ((spec_l9Site.f t331 t332 t333).bind fun bt335 => ((spec_l1Int.f t331 bt335.2.2.1 bt335.2.2.2 (([1, 2, 5, 0, 6] : List Int))).bind fun bt343 => ((spec_l1Once.f t331 bt343.2.1 bt343.2.2 9).bind fun bt346 => (if bt346.1 = true then ((spec_l1Int.f t331 bt346.2.1 bt346.2.2 (([0, 3, 9995, 9996, (-1)] : List Int))).bind fun bt352 => (some (bt343.1, bt335.1, 10, bt352.1))) else ((spec_l1Int.f t331 bt346.2.1 bt346.2.2 (([0, 3, 9995, 9996, (-1)] : List Int))).bind fun bt358 => (some (bt343.1, bt335.1, bt335.2.1, bt358.1))))))) = some (r1, r2, r3, r4) := H
  have A2 := Aside0.mk A20
  clear A20
  replace H := Option.bind_eq_some_iff.mp H
  obtain ⟨⟨t335, t336, t337, t338⟩, A30, H⟩ := H
  replace H : ((spec_l1Int.f t331 t337 t338 (([1, 2, 5, 0, 6] : List Int))).bind fun bt343 => ((spec_l1Once.f t331 bt343.2.1 bt343.2.2 9).bind fun bt346 => (if bt346.1 = true then ((spec_l1Int.f t331 bt346.2.1 bt346.2.2 (([0, 3, 9995, 9996, (-1)] : List Int))).bind fun bt352 => (some (bt343.1, t335, 10, bt352.1))) else ((spec_l1Int.f t331 bt346.2.1 bt346.2.2 (([0, 3, 9995, 9996, (-1)] : List Int))).bind fun bt358 => (some (bt343.1, t335, t336, bt358.1)))))) = some (r1, r2, r3, r4) := H
  have A3 := Aside0.mk A30
  clear A30
  obtain ⟨y340, hy340⟩ : ∃ y_ : List Int, y_ = (([1, 2, 5, 0, 6] : List Int)) := ⟨_, rfl⟩
  replace H : ((spec_l1Int.f t331 t337 t338 y340).bind fun bt343 => ((spec_l1Once.f t331 bt343.2.1 bt343.2.2 9).bind fun bt346 => (if bt346.1 = true then ((spec_l1Int.f t331 bt346.2.1 bt346.2.2 (([0, 3, 9995, 9996, (-1)] : List Int))).bind fun bt352 => (some (bt343.1, t335, 10, bt352.1))) else ((spec_l1Int.f t331 bt346.2.1 bt346.2.2 (([0, 3, 9995, 9996, (-1)] : List Int))).bind fun bt358 => (some (bt343.1, t335, t336, bt358.1)))))) = some (r1, r2, r3, r4) := by first | (rw [hy340]; with_reducible exact H) | (have H2_ := (Option.bind_some _ _).symm.trans H; rw [hy340]; with_reducible exact H2_) | (have H2_ := (Option.bind_some _ _).symm.trans H; with_reducible exact H2_) | with_reducible exact H | (rw [hy340]; exact H) | exact H
  have Ny340 := Aside0.mk hy340
  clear hy340
  replace H := Option.bind_eq_some_iff.mp H
  obtain ⟨⟨t343, t344, t345⟩, A40, H⟩ := H
  replace H : ((spec_l1Once.f t331 t344 t345 9).bind fun bt346 => (if bt346.1 = true then ((spec_l1Int.f t331 bt346.2.1 bt346.2.2 (([0, 3, 9995, 9996, (-1)] : List Int))).bind fun bt352 => (some (t343, t335, 10, bt352.1))) else ((spec_l1Int.f t331 bt346.2.1 bt346.2.2 (([0, 3, 9995, 9996, (-1)] : List Int))).bind fun bt358 => (some (t343, t335, t336, bt358.1))))) = some (r1, r2, r3, r4) := H
  have A4 := Aside0.mk A40
  clear A40
  replace H := Option.bind_eq_some_iff.mp H
  obtain ⟨⟨t346, t347, t348⟩, A50, H⟩ := H
  replace H : (if t346 = true then ((spec_l1Int.f t331 t347 t348 (([0, 3, 9995, 9996, (-1)] : List Int))).bind fun bt352 => (some (t343, t335, 10, bt352.1))) else ((spec_l1Int.f t331 t347 t348 (([0, 3, 9995, 9996, (-1)] : List Int))).bind fun bt358 => (some (t343, t335, t336, bt358.1)))) = some (r1, r2, r3, r4) := H
  have A5 := Aside0.mk A50
  clear A50
  by_cases c6 : t346 = true
  · subst c6
    have H1 : ((spec_l1Int.f t331 t347 t348 (([0, 3, 9995, 9996, (-1)] : List Int))).bind fun bt352 => (some (t343, t335, 10, bt352.1))) = some (r1, r2, r3, r4) := by rw [if_pos rfl] at H; exact H
    clear H
    have H := H1
    clear H1
    obtain ⟨y349, hy349⟩ : ∃ y_ : List Int, y_ = (([0, 3, 9995, 9996, (-1)] : List Int)) := ⟨_, rfl⟩
    replace H : ((spec_l1Int.f t331 t347 t348 y349).bind fun bt352 => (some (t343, t335, 10, bt352.1))) = some (r1, r2, r3, r4) := by first | (rw [hy349]; with_reducible exact H) | (have H2_ := (Option.bind_some _ _).symm.trans H; rw [hy349]; with_reducible exact H2_) | (have H2_ := (Option.bind_some _ _).symm.trans H; with_reducible exact H2_) | with_reducible exact H | (rw [hy349]; exact H) | exact H
    have Ny349 := Aside0.mk hy349
    clear hy349
    replace H := Option.bind_eq_some_iff.mp H
    obtain ⟨⟨t352, t353, t354⟩, A70, H⟩ := H
    replace H : (some (t343, t335, 10, t352)) = some (r1, r2, r3, r4) := H
    have A7 := Aside0.mk A70
    clear A70
    simp only [Option.some.injEq, Prod.mk.injEq] at H
    obtain ⟨rfl, rfl, rfl, rfl⟩ := H
    go_enter Try.func105, Try.ntmps105
    try go_wp2_with (first | ((with_reducible refine gate_dst (N := 3) rfl ?_); refine box_event ?hg (N := 3) ?hd (cs := #[.int .i64 0, .int .i64 0]) (t := 33) ?hr ?_; (case hd => rfl); (case hg => rfl); (case hr => first | (go_simp; done) | (go_simp; rfl)); intro gb330 hg w8 hbox hb; have q_ := hbx_ (by repeat (first | (with_reducible first | exact HB.out | apply below_alloc | apply pw_below_drewN | apply below_drew1) | exact HB.out)) hg hb; have n0_ := q_.1; have n1_ := am (hbox); have n2_ := q_.2; have n3_ := n2_; clear HB; have HB := n0_; have BK330 := n1_; have GW330 := n2_; have GE330 := n3_; clear n0_ n1_ n2_ n3_ hb hbox hg) | ((with_reducible refine gate_callee (f := 96) rfl ?_); refine goesL_ (some 9) rfl rfl Try.func96 (by kernel_rfl) rfl #[.slice A0 l0.length c0] rfl (by (try simp only [List.map_toArray, List.map_cons, List.map_nil]); first | done | rfl | (simp only [List.length_drop, List.length_take]; rfl)) ?_; (with_reducible refine (spec_l1New.calls k _ _ l0 t331 t332 t333 w _ ?side1 ?side2 ?side3 A2.out).mono ?_); (case side1 => repeat (first | (with_reducible first | exact HB.out | apply below_alloc | apply pw_below_drewN | apply below_drew1 | refine below_set ?_ GE330.out) | exact HB.out)); (case side2 => exact HR0.out); (case side3 => exact HC0.out); rintro e w9 ⟨g334, rfl, hi, hb, hb2⟩; refine ⟨_, rfl, ?_⟩; have n0_ := am (blk_below (g := gb330) (o := .cells #[.int .i64 0, .int .i64 0] 33 (0, 0)) (by (with_reducible repeat (first | refine blk_drewN ?_ _ | refine blk_drew ?_ | refine blk_alloc ?_ _)); exact BK330.out) hb2); have n1_ := am (hb); have n2_ := am (hi); have n3_ := am (IsS144.ne_blk hi (blk_below (g := gb330) (o := .cells #[.int .i64 0, .int .i64 0] 33 (0, 0)) (by (with_reducible repeat (first | refine blk_drewN ?_ _ | refine blk_drew ?_ | refine blk_alloc ?_ _)); exact BK330.out) hb2) (by decide)); have n4_ := am (Ne.symm (IsS144.ne_blk hi (blk_below (g := gb330) (o := .cells #[.int .i64 0, .int .i64 0] 33 (0, 0)) (by (with_reducible repeat (first | refine blk_drewN ?_ _ | refine blk_drew ?_ | refine blk_alloc ?_ _)); exact BK330.out) hb2) (by decide))); clear BK330; clear HB; have BK330 := n0_; have HB := n1_; have HI334 := n2_; have NB334_330 := n3_; have NB330_334 := n4_; clear n0_ n1_ n2_ n3_ n4_; (try clear hb); (try clear hb2); (try clear hk); (try clear hi)) | ((with_reducible refine gate_callee (f := 99) rfl ?_); refine goesL_ (some 11) rfl rfl Try.func99 (by kernel_rfl) rfl #[.pointer (some ⟨g334, 0, none⟩)] rfl (by (try simp only [List.map_toArray, List.map_cons, List.map_nil]); first | done | rfl | (simp only [List.length_drop, List.length_take]; rfl)) ?_; (with_reducible refine (spec_l9Site.calls g334 t331 t332 t333 t335 t336 t337 t338 w _ ?side1 ?side2 A3.out).mono ?_); (case side1 => repeat (first | (with_reducible first | exact HI334.out | apply IsS144.alloc | apply IsS144.drewN | apply IsS144.drew | apply IsS144.set_1 | apply IsS144.set_2 | refine IsS144.far ?_ NB334_330.out _) | exact HI334.out)); (case side2 => repeat (first | (with_reducible first | exact HB.out | apply below_alloc | apply pw_below_drewN | apply below_drew1 | refine below_set ?_ (IsS144.ge HI334.out) | refine below_set ?_ GE330.out) | exact HB.out)); rintro e w10 ⟨rfl, hi, hb, hk⟩; refine ⟨_, rfl, ?_⟩; have n0_ := am (KeepBut.blk hk (g' := gb330) (o := .cells #[.int .i64 0, .int .i64 0] 33 (0, 0)) (by (with_reducible repeat (first | refine blk_drewN ?_ _ | refine blk_drew ?_ | refine blk_alloc ?_ _)); exact BK330.out) NB330_334.out (by simp)); have n1_ := am (hb); have n2_ := am (hi); clear BK330; clear HB; clear HI334; have BK330 := n0_; have HB := n1_; have HI334 := n2_; clear n0_ n1_ n2_; (try clear hb); (try clear hb2); (try clear hk); (try clear hi)) | ((with_reducible refine gate_dst (N := 6) rfl ?_); refine box_event ?hg (N := 6) ?hd (cs := #[.int .i64 0, .int .i64 0]) (t := 33) ?hr ?_; (case hd => rfl); (case hg => rfl); (case hr => first | (go_simp; done) | (go_simp; rfl)); intro gb339 hg w11 hbox hb; have n0_ := am (blk_below (by (with_reducible repeat (first | refine blk_drewN ?_ _ | refine blk_drew ?_ | refine blk_alloc ?_ _)); exact BK330.out) hb); have n1_ := am (IsS144.below (by repeat (first | (with_reducible first | exact HI334.out | apply IsS144.alloc | apply IsS144.drewN | apply IsS144.drew | apply IsS144.set_1 | apply IsS144.set_2 | refine IsS144.far ?_ NB334_330.out _) | exact HI334.out)) hb); have q_ := hbx_ (by repeat (first | (with_reducible first | exact HB.out | apply below_alloc | apply pw_below_drewN | apply below_drew1 | refine below_set ?_ (IsS144.ge HI334.out) | refine below_set ?_ GE330.out) | exact HB.out)) hg hb; have n2_ := q_.1; have n3_ := am (hbox); have n4_ := q_.2; have n5_ := n4_; have n6_ := am ((by rw [hg]; exact Nat.ne_of_lt (blk_lt (g := gb330) (o := .cells #[.int .i64 0, .int .i64 0] 33 (0, 0)) (by (with_reducible repeat (first | refine blk_drewN ?_ _ | refine blk_drew ?_ | refine blk_alloc ?_ _)); exact BK330.out)) : gb330 ≠ gb339)); have n7_ := am ((by rw [hg]; exact Nat.ne_of_gt (blk_lt (g := gb330) (o := .cells #[.int .i64 0, .int .i64 0] 33 (0, 0)) (by (with_reducible repeat (first | refine blk_drewN ?_ _ | refine blk_drew ?_ | refine blk_alloc ?_ _)); exact BK330.out)) : gb339 ≠ gb330)); have n8_ := am ((by rw [hg]; exact Nat.ne_of_lt (IsS144.lt (show IsS144 w _ g334 t331 t337 t338 from by repeat (first | (with_reducible first | exact HI334.out | apply IsS144.alloc | apply IsS144.drewN | apply IsS144.drew | apply IsS144.set_1 | apply IsS144.set_2 | refine IsS144.far ?_ NB334_330.out _) | exact HI334.out))) : g334 ≠ gb339)); have n9_ := am ((by rw [hg]; exact Nat.ne_of_gt (IsS144.lt (show IsS144 w _ g334 t331 t337 t338 from by repeat (first | (with_reducible first | exact HI334.out | apply IsS144.alloc | apply IsS144.drewN | apply IsS144.drew | apply IsS144.set_1 | apply IsS144.set_2 | refine IsS144.far ?_ NB334_330.out _) | exact HI334.out))) : gb339 ≠ g334)); clear BK330; clear HI334; clear HB; have BK330 := n0_; have HI334 := n1_; have HB := n2_; have BK339 := n3_; have GW339 := n4_; have GE339 := n5_; have NB330_339 := n6_; have NB339_330 := n7_; have NB334_339 := n8_; have NB339_334 := n9_; clear n0_ n1_ n2_ n3_ n4_ n5_ n6_ n7_ n8_ n9_; clear hb hbox hg; have hnb12 := NB339_330.out; have hnc12 := NB330_339.out; have hnb13 := NB339_334.out; have hnc13 := NB334_339.out; obtain ⟨hcz14_0, hcz14_1, hfz14_0, hfz14_1⟩ := blk2 BK339.out) | ((with_reducible refine gate_dst (N := 13) rfl ?_); refine Kd.R_lit (Kd.int .i64) _ 3 ?hg (N := 13) ?hd (xs := ([1, 2, 5, 0, 6] : List Int)) (inner := [.int .i64 1, .int .i64 2, .int .i64 5, .int .i64 0, .int .i64 6]) (ok := fun _ => True) (okp := fun _ => True) ?hr ?hp (fun _ hk => hk) trivial (Below.refl _ _) (Nat.le_refl _) (by simp) ?_; (case hd => rfl); (case hg => rfl); (case hr => first | (go_simp; done) | (go_simp; rfl)); (case hp => exact (Reps.one (show Kd.M (Kd.int .i64) _ _ _ 1 [.int .i64 1] from rfl) (Reps.one (show Kd.M (Kd.int .i64) _ _ _ 2 [.int .i64 2] from rfl) (Reps.one (show Kd.M (Kd.int .i64) _ _ _ 5 [.int .i64 5] from rfl) (Reps.one (show Kd.M (Kd.int .i64) _ _ _ 0 [.int .i64 0] from rfl) (Reps.one (show Kd.M (Kd.int .i64) _ _ _ 6 [.int .i64 6] from rfl) (Reps.none _ _))))))); intro v341 w15 ho16 hb hg_ hnew_; clear hg_ hnew_; (first | rw [← Ny340.out] at ho16 | (simp only [Int.reduceToNat] at ho16; rw [← Ny340.out] at ho16)); have n0_ := am (Kd.R_lower ho16 (below_size (by repeat (first | (with_reducible first | exact HB.out | apply below_alloc | apply pw_below_drewN | apply below_drew1 | refine below_set ?_ (IsS144.ge HI334.out) | refine below_set ?_ GE330.out | refine below_set ?_ GE339.out) | exact HB.out)))); have n1_ := am (blk_below (g := gb330) (o := .cells #[.int .i64 0, .int .i64 0] 33 (0, 0)) (by (with_reducible repeat (first | refine blk_drewN ?_ _ | refine blk_drew ?_ | refine blk_alloc ?_ _)); refine blk_far ?_ NB330_339.out _; (with_reducible repeat (first | refine blk_drewN ?_ _ | refine blk_drew ?_ | refine blk_alloc ?_ _)); refine blk_far ?_ NB330_339.out _; (with_reducible repeat (first | refine blk_drewN ?_ _ | refine blk_drew ?_ | refine blk_alloc ?_ _)); exact BK330.out) hb); have n2_ := am (IsS144.below (show IsS144 w ((w11.setCell ⟨gb339, 0, none⟩ (.int .i64 t335)).setCell ⟨gb339, 1, none⟩ (.int .i64 t336)) g334 t331 t337 t338 from by repeat (first | (with_reducible first | exact HI334.out | apply IsS144.alloc | apply IsS144.drewN | apply IsS144.drew | apply IsS144.set_1 | apply IsS144.set_2 | refine IsS144.far ?_ NB334_330.out _ | refine IsS144.far ?_ NB334_339.out _) | exact HI334.out)) hb); have n3_ := am (blk_below (g := gb339) (o := .cells #[.int .i64 t335, .int .i64 t336] 33 (0, 0)) (by (with_reducible repeat (first | refine blk_drewN ?_ _ | refine blk_drew ?_ | refine blk_alloc ?_ _)); refine blk_put (cs := #[.int .i64 t335, .int .i64 0]) ?_ 1 _ rfl; (with_reducible repeat (first | refine blk_drewN ?_ _ | refine blk_drew ?_ | refine blk_alloc ?_ _)); refine blk_put (cs := #[.int .i64 0, .int .i64 0]) ?_ 0 _ rfl; (with_reducible repeat (first | refine blk_drewN ?_ _ | refine blk_drew ?_ | refine blk_alloc ?_ _)); exact BK339.out) hb); have n4_ := am (below_step (by repeat (first | (with_reducible first | exact HB.out | apply below_alloc | apply pw_below_drewN | apply below_drew1 | refine below_set ?_ (IsS144.ge HI334.out) | refine below_set ?_ GE330.out | refine below_set ?_ GE339.out) | exact HB.out)) hb); clear BK330; clear HI334; clear BK339; clear HB; have HO342 := n0_; have BK330 := n1_; have HI334 := n2_; have BK339 := n3_; have HB := n4_; clear n0_ n1_ n2_ n3_ n4_; clear hb ho16; obtain ⟨Ao17, co17, eo17⟩ := Kd.R_slice HO342.out; subst eo17) | ((with_reducible refine gate_callee (f := 135) rfl ?_); refine goesL_ (some 14) rfl rfl Try.func135 (by kernel_rfl) rfl #[.pointer (some ⟨g334, 0, none⟩), .slice Ao17 y340.length co17] rfl (by (try simp only [List.map_toArray, List.map_cons, List.map_nil]); first | done | rfl | (simp only [List.length_drop, List.length_take]; rfl)) ?_; (with_reducible refine (spec_l1Int.calls g334 t331 t337 t338 _ _ y340 t343 t344 t345 w _ ?side1 ?side2 ?side3 ?side4 ?side5 A4.out).mono ?_); (case side1 => repeat (first | (with_reducible first | exact HI334.out | apply IsS144.alloc | apply IsS144.drewN | apply IsS144.drew | apply IsS144.set_1 | apply IsS144.set_2 | refine IsS144.far ?_ NB334_330.out _ | refine IsS144.far ?_ NB334_339.out _) | exact HI334.out)); (case side2 => repeat (first | (with_reducible first | exact HB.out | apply below_alloc | apply pw_below_drewN | apply below_drew1 | refine below_set ?_ (IsS144.ge HI334.out) | refine below_set ?_ GE330.out | refine below_set ?_ GE339.out) | exact HB.out)); (case side3 => repeat (first | exact (Kd.R_reads' HO342.out).2.2 | (with_reducible refine Kd.C_alloc ?_ _) | (with_reducible refine Kd.C_drewN ?_ _) | (with_reducible refine Kd.C_drew ?_))); (case side4 => exact (Kd.R_reads' HO342.out).2.1); (case side5 => exact far_slice (IsS144.own_ne HI334.out HO342.out (by decide))); rintro e w18 ⟨rfl, hi, hb, hk⟩; refine ⟨_, rfl, ?_⟩; have n0_ := am (KeepBut.blk hk (g' := gb330) (o := .cells #[.int .i64 0, .int .i64 0] 33 (0, 0)) (by (with_reducible repeat (first | refine blk_drewN ?_ _ | refine blk_drew ?_ | refine blk_alloc ?_ _)); exact BK330.out) NB330_334.out (by simp)); have n1_ := am (KeepBut.blk hk (g' := gb339) (o := .cells #[.int .i64 t335, .int .i64 t336] 33 (0, 0)) (by (with_reducible repeat (first | refine blk_drewN ?_ _ | refine blk_drew ?_ | refine blk_alloc ?_ _)); exact BK339.out) NB339_334.out (by simp)); have n2_ := am (Kd.R_mono (Kd.R_keep (IsS144.apart (show IsS144 w _ g334 t331 t337 t338 from by repeat (first | (with_reducible first | exact HI334.out | apply IsS144.alloc | apply IsS144.drewN | apply IsS144.drew | apply IsS144.set_1 | apply IsS144.set_2 | refine IsS144.far ?_ NB334_330.out _ | refine IsS144.far ?_ NB334_339.out _) | exact HI334.out)) (by (with_reducible repeat (first | apply Kd.R_alloc | apply Kd.R_drewN | apply Kd.R_drew)); exact HO342.out) (by decide)) hk (fun _ h => h.2)) (fun _ h => h.1)); have n3_ := am (hb); have n4_ := am (hi); clear BK330; clear BK339; clear HO342; clear HB; clear HI334; have BK330 := n0_; have BK339 := n1_; have HO342 := n2_; have HB := n3_; have HI334 := n4_; clear n0_ n1_ n2_ n3_ n4_; (try clear hb); (try clear hb2); (try clear hk); (try clear hi)) | ((with_reducible refine gate_callee (f := 100) rfl ?_); refine goesL_ (some 16) rfl rfl Try.func100 (by kernel_rfl) rfl #[.pointer (some ⟨g334, 0, none⟩), .int .i64 9] rfl (by (try simp only [List.map_toArray, List.map_cons, List.map_nil]); first | done | rfl | (simp only [List.length_drop, List.length_take]; rfl)) ?_; (with_reducible refine (spec_l1Once.calls g334 t331 t344 t345 9 true t347 t348 w _ ?side1 ?side2 A5.out).mono ?_); (case side1 => repeat (first | (with_reducible first | exact HI334.out | apply IsS144.alloc | apply IsS144.drewN | apply IsS144.drew | apply IsS144.set_1 | apply IsS144.set_2 | refine IsS144.far ?_ NB334_330.out _ | refine IsS144.far ?_ NB334_339.out _) | exact HI334.out)); (case side2 => repeat (first | (with_reducible first | exact HB.out | apply below_alloc | apply pw_below_drewN | apply below_drew1 | refine below_set ?_ (IsS144.ge HI334.out) | refine below_set ?_ GE330.out | refine below_set ?_ GE339.out) | exact HB.out)); rintro e w19 ⟨rfl, hi, hb, hk⟩; refine ⟨_, rfl, ?_⟩; have n0_ := am (KeepBut.blk hk (g' := gb330) (o := .cells #[.int .i64 0, .int .i64 0] 33 (0, 0)) (by (with_reducible repeat (first | refine blk_drewN ?_ _ | refine blk_drew ?_ | refine blk_alloc ?_ _)); exact BK330.out) NB330_334.out (by simp)); have n1_ := am (KeepBut.blk hk (g' := gb339) (o := .cells #[.int .i64 t335, .int .i64 t336] 33 (0, 0)) (by (with_reducible repeat (first | refine blk_drewN ?_ _ | refine blk_drew ?_ | refine blk_alloc ?_ _)); exact BK339.out) NB339_334.out (by simp)); have n2_ := am (Kd.R_mono (Kd.R_keep (IsS144.apart (show IsS144 w _ g334 t331 t344 t345 from by repeat (first | (with_reducible first | exact HI334.out | apply IsS144.alloc | apply IsS144.drewN | apply IsS144.drew | apply IsS144.set_1 | apply IsS144.set_2 | refine IsS144.far ?_ NB334_330.out _ | refine IsS144.far ?_ NB334_339.out _) | exact HI334.out)) (by (with_reducible repeat (first | apply Kd.R_alloc | apply Kd.R_drewN | apply Kd.R_drew)); exact HO342.out) (by decide)) hk (fun _ h => h.2)) (fun _ h => h.1)); have n3_ := am (hb); have n4_ := am (hi); clear BK330; clear BK339; clear HO342; clear HB; clear HI334; have BK330 := n0_; have BK339 := n1_; have HO342 := n2_; have HB := n3_; have HI334 := n4_; clear n0_ n1_ n2_ n3_ n4_; (try clear hb); (try clear hb2); (try clear hk); (try clear hi); obtain ⟨hcz20_0, hcz20_1, hfz20_0, hfz20_1⟩ := blk2 BK339.out))
    have n0_ : Aside0 (Kd.R (Kd.int .i64) 3 (w19.setCell ⟨gb339, 1, none⟩ (.int .i64 10)) w.heap.size (fun _ => True) (.slice Ao17 y340.length co17) y340) := ⟨by (with_reducible repeat (first | apply Kd.R_alloc | apply Kd.R_drewN | apply Kd.R_drew)); exact Kd.R_mono (Kd.R_far (p := ⟨gb339, 1, none⟩) (Kd.R_types HO342.out BK339.out (by decide)) (fun _ hk => hk.2) (.int .i64 10)) (fun _ hk => trivial)⟩
    have n1_ : Aside0 ((w19.setCell ⟨gb339, 1, none⟩ (.int .i64 10)).heap[gb330]? = some (.cells #[.int .i64 0, .int .i64 0] 33 (0, 0))) := ⟨by (with_reducible repeat (first | refine blk_drewN ?_ _ | refine blk_drew ?_ | refine blk_alloc ?_ _)); refine blk_far ?_ NB330_339.out _; (with_reducible repeat (first | refine blk_drewN ?_ _ | refine blk_drew ?_ | refine blk_alloc ?_ _)); exact BK330.out⟩
    have n2_ : Aside0 ((w19.setCell ⟨gb339, 1, none⟩ (.int .i64 10)).heap[gb339]? = some (.cells #[.int .i64 t335, .int .i64 10] 33 (0, 0))) := ⟨by (with_reducible repeat (first | refine blk_drewN ?_ _ | refine blk_drew ?_ | refine blk_alloc ?_ _)); refine blk_put (cs := #[.int .i64 t335, .int .i64 t336]) ?_ 1 _ rfl; (with_reducible repeat (first | refine blk_drewN ?_ _ | refine blk_drew ?_ | refine blk_alloc ?_ _)); exact BK339.out⟩
    have n3_ : Aside0 (IsS144 w (w19.setCell ⟨gb339, 1, none⟩ (.int .i64 10)) g334 t331 t347 t348) := ⟨by repeat (first | (with_reducible first | exact HI334.out | apply IsS144.alloc | apply IsS144.drewN | apply IsS144.drew | apply IsS144.set_1 | apply IsS144.set_2 | refine IsS144.far ?_ NB334_330.out _ | refine IsS144.far ?_ NB334_339.out _) | exact HI334.out)⟩
    have n4_ : Aside0 (Below w.heap.size w (w19.setCell ⟨gb339, 1, none⟩ (.int .i64 10))) := ⟨by repeat (first | (with_reducible first | exact HB.out | apply below_alloc | apply pw_below_drewN | apply below_drew1 | refine below_set ?_ (IsS144.ge HI334.out) | refine below_set ?_ GE330.out | refine below_set ?_ GE339.out) | exact HB.out)⟩
    (try clear HO342)
    (try clear BK330)
    (try clear BK339)
    (try clear HI334)
    (try clear HB)
    generalize (w19.setCell ⟨gb339, 1, none⟩ (.int .i64 10)) = w21 at n0_ n1_ n2_ n3_ n4_ ⊢
    have HO342 := n0_
    have BK330 := n1_
    have BK339 := n2_
    have HI334 := n3_
    have HB := n4_
    clear n0_ n1_ n2_ n3_ n4_
    have n0_ := am (Kd.R_drew HO342.out)
    have n1_ := am (blk_drew BK330.out)
    have n2_ := am (blk_drew BK339.out)
    have n3_ := am (IsS144.drew HI334.out)
    have n4_ := am (below_drew1 HB.out)
    clear HO342
    clear BK330
    clear BK339
    clear HI334
    clear HB
    have HO342 := n0_
    have BK330 := n1_
    have BK339 := n2_
    have HI334 := n3_
    have HB := n4_
    clear n0_ n1_ n2_ n3_ n4_
    refine start_ (n := 8) (S := fun w' => w'.cell? ⟨gb339, 0, none⟩ = some (.int .i64 t335) ∧ w'.cell? ⟨gb339, 1, none⟩ = some (.int .i64 10)) (ds := []) #[false, false, false, false, false, false, false, false] (by kernel_rfl) rfl rfl ⟨(blk_cell BK339.out 0).trans rfl, (blk_cell BK339.out 1).trans rfl⟩ (fun hHeld => ?_); refine with_tabW spec_DrawLendGrants.tab6 spec_DrawLendGrants.bits6 (fun HT_ HW_ => ?_)
    generalize w21.drew = w22 at HO342 BK330 BK339 HI334 HB hHeld ⊢
    refine pure_ (i := 0) (N := some 18) (v := ?_) (a' := ?_) #[true, false, false, false, false, false, false, false] rfl rfl (any_of HT_.out (by kernel_rfl)) (fun _ _ _ h => h) (Or.inl ⟨by rfl, ?_⟩) ?_ ?_
    rotate_left
    · intro w'
      go_simp
      with_reducible rfl
    rotate_left
    · simp only [Act.put, List.setIfInBounds_toArray, List.set_cons_zero, List.set_cons_succ, i64_w, i32_w]
      rfl
    refine pure_ (i := 2) (N := some 20) (v := ?_) (a' := ?_) #[true, false, true, false, false, false, false, false] rfl rfl (any_of HT_.out (by kernel_rfl)) (fun _ _ _ h => h) (Or.inl ⟨by rfl, ?_⟩) ?_ ?_
    rotate_left
    · intro w'
      go_simp
      with_reducible rfl
    rotate_left
    · simp only [Act.put, List.setIfInBounds_toArray, List.set_cons_zero, List.set_cons_succ, i64_w, i32_w]
      rfl
    refine take_ (i := 1) (N := some 19) (v := ?_) (a' := ?_) #[true, true, true, false, false, false, false, false] rfl rfl (take_ofW HT_.out HW_.out (by kernel_rfl)) (fun _ _ _ h => h) (Or.inl ⟨by rfl, ?_⟩) hHeld ?_ ?_
    rotate_left
    · rintro w' ⟨s0, s1⟩
      go_simp
      with_reducible rfl
    rotate_left
    · simp only [Act.put, List.setIfInBounds_toArray, List.set_cons_zero, List.set_cons_succ, i64_w, i32_w]
      rfl
    refine one_ (i := 3) (N := some 21) #[true, true, true, true, false, false, false, false] rfl rfl (one_of HT_.out (by kernel_rfl)) (by decide) (fun K hK => ?_)
    refine Kd.R_lit_step (Kd.int .i64) _ 3 ?hg (N := 21) ?hd (xs := ([0, 3, 9995, 9996, (-1)] : List Int)) (inner := [.int .i64 0, .int .i64 3, .int .i64 9995, .int .i64 9996, .int .i64 (-1)]) (ok := fun _ => True) (okp := fun _ => True) ?hr ?hp (fun _ hk => hk) trivial (Below.refl _ _) (Nat.le_refl _) (by simp) ?_; (case hd => rfl); (case hg => rfl); (case hr => first | (go_simp; done) | (go_simp; rfl)); (case hp => exact (Reps.one (show Kd.M (Kd.int .i64) _ _ _ 0 [.int .i64 0] from rfl) (Reps.one (show Kd.M (Kd.int .i64) _ _ _ 3 [.int .i64 3] from rfl) (Reps.one (show Kd.M (Kd.int .i64) _ _ _ 9995 [.int .i64 9995] from rfl) (Reps.one (show Kd.M (Kd.int .i64) _ _ _ 9996 [.int .i64 9996] from rfl) (Reps.one (show Kd.M (Kd.int .i64) _ _ _ (-1) [.int .i64 (-1)] from rfl) (Reps.none _ _)))))))
    intro v350 w23 ho24 hb hg_ hnew_
    clear hg_ hnew_
    (first | rw [← Ny349.out] at ho24 | (simp only [Int.reduceToNat] at ho24; rw [← Ny349.out] at ho24))
    have n0_ := am (Kd.R_elder' (by (with_reducible repeat (first | apply Kd.R_alloc | apply Kd.R_drewN | apply Kd.R_drew)); exact HO342.out) (Kd.R_base ho24) hb)
    have n1_ := am (Kd.R_lower (Kd.R_new' ho24 (Kd.R_lt (by (with_reducible repeat (first | apply Kd.R_alloc | apply Kd.R_drewN | apply Kd.R_drew)); exact HO342.out))) (below_size (by repeat (first | (with_reducible first | exact HB.out | apply below_alloc | apply pw_below_drewN | apply below_drew1 | refine below_set ?_ (IsS144.ge HI334.out) | refine below_set ?_ GE330.out | refine below_set ?_ GE339.out) | exact HB.out))))
    have n2_ := am (blk_below (by (with_reducible repeat (first | refine blk_drewN ?_ _ | refine blk_drew ?_ | refine blk_alloc ?_ _)); exact BK330.out) hb)
    have n3_ := am (IsS144.below (by repeat (first | (with_reducible first | exact HI334.out | apply IsS144.alloc | apply IsS144.drewN | apply IsS144.drew | apply IsS144.set_1 | apply IsS144.set_2 | refine IsS144.far ?_ NB334_330.out _ | refine IsS144.far ?_ NB334_339.out _) | exact HI334.out)) hb)
    have n4_ := am (blk_below (by (with_reducible repeat (first | refine blk_drewN ?_ _ | refine blk_drew ?_ | refine blk_alloc ?_ _)); exact BK339.out) hb)
    have n5_ := am (below_step (by repeat (first | (with_reducible first | exact HB.out | apply below_alloc | apply pw_below_drewN | apply below_drew1 | refine below_set ?_ (IsS144.ge HI334.out) | refine below_set ?_ GE330.out | refine below_set ?_ GE339.out) | exact HB.out)) hb)
    clear HO342
    clear BK330
    clear HI334
    clear BK339
    clear HB
    have HO342 := n0_
    have HO351 := n1_
    have BK330 := n2_
    have HI334 := n3_
    have BK339 := n4_
    have HB := n5_
    clear n0_ n1_ n2_ n3_ n4_ n5_
    clear hb ho24
    obtain ⟨Ao25, co25, eo25⟩ := Kd.R_slice HO351.out
    (first | subst eo25 | (injection eo25 with f1_ f2_ f3_; have f4_ := f1_.symm; have f5_ := f3_.symm; clear f1_ f2_ f3_; subst f4_; subst f5_))
    refine hK.out _ _ ⟨(blk_cell BK339.out 0).trans rfl, (blk_cell BK339.out 1).trans rfl⟩ (fun hHeld => ?_)
    clear hK K
    refine norm_ (a' := ?_) ?_ ?_
    rotate_left
    · show Act.put _ (some 21) _ = _
      simp only [Act.put, List.setIfInBounds_toArray, List.set_cons_zero, List.set_cons_succ, i64_w, i32_w]
      rfl
    refine one_ (i := 4) (N := some 22) #[true, true, true, true, true, false, false, false] rfl rfl (one_of HT_.out (by kernel_rfl)) (by decide) (fun K hK => ?_)
    refine goes_ Try.func135 (by kernel_rfl) rfl #[.pointer (some ⟨g334, 0, none⟩), .slice Ao25 y349.length co25] (by rfl) rfl rfl (by (try simp only [List.map_toArray, List.map_cons, List.map_nil]); first | done | rfl | (simp only [List.length_drop, List.length_take]; rfl)) ?_
    with_reducible refine (spec_l1Int.calls g334 t331 t347 t348 _ _ y349 t352 t353 t354 w _ ?side1 ?side2 ?side3 ?side4 ?side5 A7.out).mono ?_
    (case side1 => repeat (first | (with_reducible first | exact HI334.out | apply IsS144.alloc | apply IsS144.drewN | apply IsS144.drew | apply IsS144.set_1 | apply IsS144.set_2 | refine IsS144.far ?_ NB334_330.out _ | refine IsS144.far ?_ NB334_339.out _) | exact HI334.out))
    (case side2 => repeat (first | (with_reducible first | exact HB.out | apply below_alloc | apply pw_below_drewN | apply below_drew1 | refine below_set ?_ (IsS144.ge HI334.out) | refine below_set ?_ GE330.out | refine below_set ?_ GE339.out) | exact HB.out))
    (case side3 => repeat (first | exact (Kd.R_reads' HO351.out).2.2 | (with_reducible refine Kd.C_alloc ?_ _) | (with_reducible refine Kd.C_drewN ?_ _) | (with_reducible refine Kd.C_drew ?_)))
    (case side4 => exact (Kd.R_reads' HO351.out).2.1)
    (case side5 => exact far_slice (IsS144.own_ne HI334.out HO351.out (by decide)))
    rintro e w26 ⟨rfl, hi, hb, hk⟩
    refine ⟨_, rfl, ?_⟩
    have n0_ := am (KeepBut.blk hk (g' := gb330) (o := .cells #[.int .i64 0, .int .i64 0] 33 (0, 0)) (by (with_reducible repeat (first | refine blk_drewN ?_ _ | refine blk_drew ?_ | refine blk_alloc ?_ _)); exact BK330.out) NB330_334.out (by simp))
    have n1_ := am (KeepBut.blk hk (g' := gb339) (o := .cells #[.int .i64 t335, .int .i64 10] 33 (0, 0)) (by (with_reducible repeat (first | refine blk_drewN ?_ _ | refine blk_drew ?_ | refine blk_alloc ?_ _)); exact BK339.out) NB339_334.out (by simp))
    have n2_ := am (Kd.R_mono (Kd.R_keep (IsS144.apart (show IsS144 w _ g334 t331 t347 t348 from by repeat (first | (with_reducible first | exact HI334.out | apply IsS144.alloc | apply IsS144.drewN | apply IsS144.drew | apply IsS144.set_1 | apply IsS144.set_2 | refine IsS144.far ?_ NB334_330.out _ | refine IsS144.far ?_ NB334_339.out _) | exact HI334.out)) (by (with_reducible repeat (first | apply Kd.R_alloc | apply Kd.R_drewN | apply Kd.R_drew)); exact HO342.out) (by decide)) hk (fun _ h => h.2)) (fun _ h => h.1))
    have n3_ := am (Kd.R_mono (Kd.R_keep (IsS144.apart (show IsS144 w _ g334 t331 t347 t348 from by repeat (first | (with_reducible first | exact HI334.out | apply IsS144.alloc | apply IsS144.drewN | apply IsS144.drew | apply IsS144.set_1 | apply IsS144.set_2 | refine IsS144.far ?_ NB334_330.out _ | refine IsS144.far ?_ NB334_339.out _) | exact HI334.out)) (by (with_reducible repeat (first | apply Kd.R_alloc | apply Kd.R_drewN | apply Kd.R_drew)); exact HO351.out) (by decide)) hk (fun _ h => h.2)) (fun _ h => h.1))
    have n4_ := am (hb)
    have n5_ := am (hi)
    clear BK330
    clear BK339
    clear HO342
    clear HO351
    clear HB
    clear HI334
    have BK330 := n0_
    have BK339 := n1_
    have HO342 := n2_
    have HO351 := n3_
    have HB := n4_
    have HI334 := n5_
    clear n0_ n1_ n2_ n3_ n4_ n5_
    (try clear hb)
    (try clear hb2)
    (try clear hk)
    (try clear hi)
    refine hK.out _ _ ⟨(blk_cell BK339.out 0).trans rfl, (blk_cell BK339.out 1).trans rfl⟩ (fun hHeld => ?_)
    clear hK K
    refine norm_ (a' := ?_) ?_ ?_
    rotate_left
    · show Act.put _ (some 22) _ = _
      simp only [Act.put, List.setIfInBounds_toArray, List.set_cons_zero, List.set_cons_succ, i64_w, i32_w]
      rfl
    refine pure_ (i := 5) (N := some 2) (v := ?_) (a' := ?_) #[true, true, true, true, true, true, false, false] rfl rfl (any_of HT_.out (by kernel_rfl)) (fun _ _ _ h => h) (Or.inl ⟨by rfl, ?_⟩) ?_ ?_
    rotate_left
    · intro w'
      go_simp
      with_reducible rfl
    rotate_left
    · simp only [Act.put, List.setIfInBounds_toArray, List.set_cons_zero, List.set_cons_succ, i64_w, i32_w]
      rfl
    refine one_ (i := 6) (N := none) #[true, true, true, true, true, true, true, false] rfl rfl (one_of HT_.out (by kernel_rfl)) (by decide) (fun K hK => ?_)
    have hs27 : w26.cell? ⟨gb330, 0, none⟩ = some (.int .i64 0) := (blk_cell BK330.out 0).trans rfl
    have hfs27 := blk_frozen BK330.out 0
    have hns27_1 := NB339_330.out
    have hms27_1 := NB330_339.out
    have hs28 : w26.cell? ⟨gb330, 1, none⟩ = some (.int .i64 0) := (blk_cell BK330.out 1).trans rfl
    have hfs28 := blk_frozen BK330.out 1
    have hns28_1 := NB339_330.out
    have hms28_1 := NB330_339.out
    refine skip_ (w1 := ?_) (by rfl) rfl ?_ ?_
    rotate_left
    · go_simp
      rfl
    refine hK.out _ _ ⟨((cell_far (p := ⟨gb330, _, none⟩) NB339_330.out _).trans (((cell_far (p := ⟨gb330, _, none⟩) NB339_330.out _).trans (hHeld.1)))), ((cell_far (p := ⟨gb330, _, none⟩) NB339_330.out _).trans (((cell_far (p := ⟨gb330, _, none⟩) NB339_330.out _).trans (hHeld.2))))⟩ (fun hHeld => ?_)
    clear hK K
    refine pure_ (i := 7) (N := some 4) (v := ?_) (a' := ?_) #[true, true, true, true, true, true, true, true] rfl rfl (any_of HT_.out (by kernel_rfl)) (fun _ _ _ h => h) (Or.inl ⟨by rfl, ?_⟩) ?_ ?_
    rotate_left
    · intro w'
      go_simp
      with_reducible rfl
    rotate_left
    · simp only [Act.put, List.setIfInBounds_toArray, List.set_cons_zero, List.set_cons_succ, i64_w, i32_w]
      rfl
    refine done_ (done_of HT_.out (by kernel_rfl)) ?_
    try go_wp2
    refine bodyPost_ret (results_list (rs := [.tmp 2, .cell 3 33, .tmp 4]) rfl (by simp) (.tmp (.cell gb330 33 #[.int .i64 t335, .int .i64 10] (0, 0) _ rfl (by (with_reducible repeat (first | refine blk_drewN ?_ _ | refine blk_drew ?_ | refine blk_alloc ?_ _)); refine blk_put (cs := #[.int .i64 t335, .int .i64 0]) ?_ 1 _ rfl; (with_reducible repeat (first | refine blk_drewN ?_ _ | refine blk_drew ?_ | refine blk_alloc ?_ _)); refine blk_put (cs := #[.int .i64 0, .int .i64 0]) ?_ 0 _ rfl; (with_reducible repeat (first | refine blk_drewN ?_ _ | refine blk_drew ?_ | refine blk_alloc ?_ _)); exact BK330.out) Try.underlying33 rfl (by kernel_rfl) (.tmp .nil)))) rfl ?_
    exact ⟨by first | rfl | (simp [errW_none, errW_some] <;> rfl) | (simp [*, errW_none, errW_some] <;> rfl), by repeat (first | (with_reducible first | exact HB.out | apply below_alloc | apply pw_below_drewN | apply below_drew1 | refine below_set ?_ (IsS144.ge HI334.out) | refine below_set ?_ GE330.out | refine below_set ?_ GE339.out) | exact HB.out)⟩
  · replace c6 := Bool.eq_false_iff.mpr c6
    subst c6
    have H1 : ((spec_l1Int.f t331 t347 t348 (([0, 3, 9995, 9996, (-1)] : List Int))).bind fun bt358 => (some (t343, t335, t336, bt358.1))) = some (r1, r2, r3, r4) := by rw [if_neg (show ¬ (false = true) by decide)] at H; exact H
    clear H
    have H := H1
    clear H1
    obtain ⟨y355, hy355⟩ : ∃ y_ : List Int, y_ = (([0, 3, 9995, 9996, (-1)] : List Int)) := ⟨_, rfl⟩
    replace H : ((spec_l1Int.f t331 t347 t348 y355).bind fun bt358 => (some (t343, t335, t336, bt358.1))) = some (r1, r2, r3, r4) := by first | (rw [hy355]; with_reducible exact H) | (have H2_ := (Option.bind_some _ _).symm.trans H; rw [hy355]; with_reducible exact H2_) | (have H2_ := (Option.bind_some _ _).symm.trans H; with_reducible exact H2_) | with_reducible exact H | (rw [hy355]; exact H) | exact H
    have Ny355 := Aside0.mk hy355
    clear hy355
    replace H := Option.bind_eq_some_iff.mp H
    obtain ⟨⟨t358, t359, t360⟩, A290, H⟩ := H
    replace H : (some (t343, t335, t336, t358)) = some (r1, r2, r3, r4) := H
    have A29 := Aside0.mk A290
    clear A290
    simp only [Option.some.injEq, Prod.mk.injEq] at H
    obtain ⟨rfl, rfl, rfl, rfl⟩ := H
    go_enter Try.func105, Try.ntmps105
    try go_wp2_with (first | ((with_reducible refine gate_dst (N := 3) rfl ?_); refine box_event ?hg (N := 3) ?hd (cs := #[.int .i64 0, .int .i64 0]) (t := 33) ?hr ?_; (case hd => rfl); (case hg => rfl); (case hr => first | (go_simp; done) | (go_simp; rfl)); intro gb330 hg w30 hbox hb; have q_ := hbx_ (by repeat (first | (with_reducible first | exact HB.out | apply below_alloc | apply pw_below_drewN | apply below_drew1) | exact HB.out)) hg hb; have n0_ := q_.1; have n1_ := am (hbox); have n2_ := q_.2; have n3_ := n2_; clear HB; have HB := n0_; have BK330 := n1_; have GW330 := n2_; have GE330 := n3_; clear n0_ n1_ n2_ n3_ hb hbox hg) | ((with_reducible refine gate_callee (f := 96) rfl ?_); refine goesL_ (some 9) rfl rfl Try.func96 (by kernel_rfl) rfl #[.slice A0 l0.length c0] rfl (by (try simp only [List.map_toArray, List.map_cons, List.map_nil]); first | done | rfl | (simp only [List.length_drop, List.length_take]; rfl)) ?_; (with_reducible refine (spec_l1New.calls k _ _ l0 t331 t332 t333 w _ ?side1 ?side2 ?side3 A2.out).mono ?_); (case side1 => repeat (first | (with_reducible first | exact HB.out | apply below_alloc | apply pw_below_drewN | apply below_drew1 | refine below_set ?_ GE330.out) | exact HB.out)); (case side2 => exact HR0.out); (case side3 => exact HC0.out); rintro e w31 ⟨g334, rfl, hi, hb, hb2⟩; refine ⟨_, rfl, ?_⟩; have n0_ := am (blk_below (g := gb330) (o := .cells #[.int .i64 0, .int .i64 0] 33 (0, 0)) (by (with_reducible repeat (first | refine blk_drewN ?_ _ | refine blk_drew ?_ | refine blk_alloc ?_ _)); exact BK330.out) hb2); have n1_ := am (hb); have n2_ := am (hi); have n3_ := am (IsS144.ne_blk hi (blk_below (g := gb330) (o := .cells #[.int .i64 0, .int .i64 0] 33 (0, 0)) (by (with_reducible repeat (first | refine blk_drewN ?_ _ | refine blk_drew ?_ | refine blk_alloc ?_ _)); exact BK330.out) hb2) (by decide)); have n4_ := am (Ne.symm (IsS144.ne_blk hi (blk_below (g := gb330) (o := .cells #[.int .i64 0, .int .i64 0] 33 (0, 0)) (by (with_reducible repeat (first | refine blk_drewN ?_ _ | refine blk_drew ?_ | refine blk_alloc ?_ _)); exact BK330.out) hb2) (by decide))); clear BK330; clear HB; have BK330 := n0_; have HB := n1_; have HI334 := n2_; have NB334_330 := n3_; have NB330_334 := n4_; clear n0_ n1_ n2_ n3_ n4_; (try clear hb); (try clear hb2); (try clear hk); (try clear hi)) | ((with_reducible refine gate_callee (f := 99) rfl ?_); refine goesL_ (some 11) rfl rfl Try.func99 (by kernel_rfl) rfl #[.pointer (some ⟨g334, 0, none⟩)] rfl (by (try simp only [List.map_toArray, List.map_cons, List.map_nil]); first | done | rfl | (simp only [List.length_drop, List.length_take]; rfl)) ?_; (with_reducible refine (spec_l9Site.calls g334 t331 t332 t333 t335 t336 t337 t338 w _ ?side1 ?side2 A3.out).mono ?_); (case side1 => repeat (first | (with_reducible first | exact HI334.out | apply IsS144.alloc | apply IsS144.drewN | apply IsS144.drew | apply IsS144.set_1 | apply IsS144.set_2 | refine IsS144.far ?_ NB334_330.out _) | exact HI334.out)); (case side2 => repeat (first | (with_reducible first | exact HB.out | apply below_alloc | apply pw_below_drewN | apply below_drew1 | refine below_set ?_ (IsS144.ge HI334.out) | refine below_set ?_ GE330.out) | exact HB.out)); rintro e w32 ⟨rfl, hi, hb, hk⟩; refine ⟨_, rfl, ?_⟩; have n0_ := am (KeepBut.blk hk (g' := gb330) (o := .cells #[.int .i64 0, .int .i64 0] 33 (0, 0)) (by (with_reducible repeat (first | refine blk_drewN ?_ _ | refine blk_drew ?_ | refine blk_alloc ?_ _)); exact BK330.out) NB330_334.out (by simp)); have n1_ := am (hb); have n2_ := am (hi); clear BK330; clear HB; clear HI334; have BK330 := n0_; have HB := n1_; have HI334 := n2_; clear n0_ n1_ n2_; (try clear hb); (try clear hb2); (try clear hk); (try clear hi)) | ((with_reducible refine gate_dst (N := 6) rfl ?_); refine box_event ?hg (N := 6) ?hd (cs := #[.int .i64 0, .int .i64 0]) (t := 33) ?hr ?_; (case hd => rfl); (case hg => rfl); (case hr => first | (go_simp; done) | (go_simp; rfl)); intro gb339 hg w33 hbox hb; have n0_ := am (blk_below (by (with_reducible repeat (first | refine blk_drewN ?_ _ | refine blk_drew ?_ | refine blk_alloc ?_ _)); exact BK330.out) hb); have n1_ := am (IsS144.below (by repeat (first | (with_reducible first | exact HI334.out | apply IsS144.alloc | apply IsS144.drewN | apply IsS144.drew | apply IsS144.set_1 | apply IsS144.set_2 | refine IsS144.far ?_ NB334_330.out _) | exact HI334.out)) hb); have q_ := hbx_ (by repeat (first | (with_reducible first | exact HB.out | apply below_alloc | apply pw_below_drewN | apply below_drew1 | refine below_set ?_ (IsS144.ge HI334.out) | refine below_set ?_ GE330.out) | exact HB.out)) hg hb; have n2_ := q_.1; have n3_ := am (hbox); have n4_ := q_.2; have n5_ := n4_; have n6_ := am ((by rw [hg]; exact Nat.ne_of_lt (blk_lt (g := gb330) (o := .cells #[.int .i64 0, .int .i64 0] 33 (0, 0)) (by (with_reducible repeat (first | refine blk_drewN ?_ _ | refine blk_drew ?_ | refine blk_alloc ?_ _)); exact BK330.out)) : gb330 ≠ gb339)); have n7_ := am ((by rw [hg]; exact Nat.ne_of_gt (blk_lt (g := gb330) (o := .cells #[.int .i64 0, .int .i64 0] 33 (0, 0)) (by (with_reducible repeat (first | refine blk_drewN ?_ _ | refine blk_drew ?_ | refine blk_alloc ?_ _)); exact BK330.out)) : gb339 ≠ gb330)); have n8_ := am ((by rw [hg]; exact Nat.ne_of_lt (IsS144.lt (show IsS144 w _ g334 t331 t337 t338 from by repeat (first | (with_reducible first | exact HI334.out | apply IsS144.alloc | apply IsS144.drewN | apply IsS144.drew | apply IsS144.set_1 | apply IsS144.set_2 | refine IsS144.far ?_ NB334_330.out _) | exact HI334.out))) : g334 ≠ gb339)); have n9_ := am ((by rw [hg]; exact Nat.ne_of_gt (IsS144.lt (show IsS144 w _ g334 t331 t337 t338 from by repeat (first | (with_reducible first | exact HI334.out | apply IsS144.alloc | apply IsS144.drewN | apply IsS144.drew | apply IsS144.set_1 | apply IsS144.set_2 | refine IsS144.far ?_ NB334_330.out _) | exact HI334.out))) : gb339 ≠ g334)); clear BK330; clear HI334; clear HB; have BK330 := n0_; have HI334 := n1_; have HB := n2_; have BK339 := n3_; have GW339 := n4_; have GE339 := n5_; have NB330_339 := n6_; have NB339_330 := n7_; have NB334_339 := n8_; have NB339_334 := n9_; clear n0_ n1_ n2_ n3_ n4_ n5_ n6_ n7_ n8_ n9_; clear hb hbox hg; have hnb34 := NB339_330.out; have hnc34 := NB330_339.out; have hnb35 := NB339_334.out; have hnc35 := NB334_339.out; obtain ⟨hcz36_0, hcz36_1, hfz36_0, hfz36_1⟩ := blk2 BK339.out) | ((with_reducible refine gate_dst (N := 13) rfl ?_); refine Kd.R_lit (Kd.int .i64) _ 3 ?hg (N := 13) ?hd (xs := ([1, 2, 5, 0, 6] : List Int)) (inner := [.int .i64 1, .int .i64 2, .int .i64 5, .int .i64 0, .int .i64 6]) (ok := fun _ => True) (okp := fun _ => True) ?hr ?hp (fun _ hk => hk) trivial (Below.refl _ _) (Nat.le_refl _) (by simp) ?_; (case hd => rfl); (case hg => rfl); (case hr => first | (go_simp; done) | (go_simp; rfl)); (case hp => exact (Reps.one (show Kd.M (Kd.int .i64) _ _ _ 1 [.int .i64 1] from rfl) (Reps.one (show Kd.M (Kd.int .i64) _ _ _ 2 [.int .i64 2] from rfl) (Reps.one (show Kd.M (Kd.int .i64) _ _ _ 5 [.int .i64 5] from rfl) (Reps.one (show Kd.M (Kd.int .i64) _ _ _ 0 [.int .i64 0] from rfl) (Reps.one (show Kd.M (Kd.int .i64) _ _ _ 6 [.int .i64 6] from rfl) (Reps.none _ _))))))); intro v341 w37 ho38 hb hg_ hnew_; clear hg_ hnew_; (first | rw [← Ny340.out] at ho38 | (simp only [Int.reduceToNat] at ho38; rw [← Ny340.out] at ho38)); have n0_ := am (Kd.R_lower ho38 (below_size (by repeat (first | (with_reducible first | exact HB.out | apply below_alloc | apply pw_below_drewN | apply below_drew1 | refine below_set ?_ (IsS144.ge HI334.out) | refine below_set ?_ GE330.out | refine below_set ?_ GE339.out) | exact HB.out)))); have n1_ := am (blk_below (g := gb330) (o := .cells #[.int .i64 0, .int .i64 0] 33 (0, 0)) (by (with_reducible repeat (first | refine blk_drewN ?_ _ | refine blk_drew ?_ | refine blk_alloc ?_ _)); refine blk_far ?_ NB330_339.out _; (with_reducible repeat (first | refine blk_drewN ?_ _ | refine blk_drew ?_ | refine blk_alloc ?_ _)); refine blk_far ?_ NB330_339.out _; (with_reducible repeat (first | refine blk_drewN ?_ _ | refine blk_drew ?_ | refine blk_alloc ?_ _)); exact BK330.out) hb); have n2_ := am (IsS144.below (show IsS144 w ((w33.setCell ⟨gb339, 0, none⟩ (.int .i64 t335)).setCell ⟨gb339, 1, none⟩ (.int .i64 t336)) g334 t331 t337 t338 from by repeat (first | (with_reducible first | exact HI334.out | apply IsS144.alloc | apply IsS144.drewN | apply IsS144.drew | apply IsS144.set_1 | apply IsS144.set_2 | refine IsS144.far ?_ NB334_330.out _ | refine IsS144.far ?_ NB334_339.out _) | exact HI334.out)) hb); have n3_ := am (blk_below (g := gb339) (o := .cells #[.int .i64 t335, .int .i64 t336] 33 (0, 0)) (by (with_reducible repeat (first | refine blk_drewN ?_ _ | refine blk_drew ?_ | refine blk_alloc ?_ _)); refine blk_put (cs := #[.int .i64 t335, .int .i64 0]) ?_ 1 _ rfl; (with_reducible repeat (first | refine blk_drewN ?_ _ | refine blk_drew ?_ | refine blk_alloc ?_ _)); refine blk_put (cs := #[.int .i64 0, .int .i64 0]) ?_ 0 _ rfl; (with_reducible repeat (first | refine blk_drewN ?_ _ | refine blk_drew ?_ | refine blk_alloc ?_ _)); exact BK339.out) hb); have n4_ := am (below_step (by repeat (first | (with_reducible first | exact HB.out | apply below_alloc | apply pw_below_drewN | apply below_drew1 | refine below_set ?_ (IsS144.ge HI334.out) | refine below_set ?_ GE330.out | refine below_set ?_ GE339.out) | exact HB.out)) hb); clear BK330; clear HI334; clear BK339; clear HB; have HO342 := n0_; have BK330 := n1_; have HI334 := n2_; have BK339 := n3_; have HB := n4_; clear n0_ n1_ n2_ n3_ n4_; clear hb ho38; obtain ⟨Ao39, co39, eo39⟩ := Kd.R_slice HO342.out; subst eo39) | ((with_reducible refine gate_callee (f := 135) rfl ?_); refine goesL_ (some 14) rfl rfl Try.func135 (by kernel_rfl) rfl #[.pointer (some ⟨g334, 0, none⟩), .slice Ao39 y340.length co39] rfl (by (try simp only [List.map_toArray, List.map_cons, List.map_nil]); first | done | rfl | (simp only [List.length_drop, List.length_take]; rfl)) ?_; (with_reducible refine (spec_l1Int.calls g334 t331 t337 t338 _ _ y340 t343 t344 t345 w _ ?side1 ?side2 ?side3 ?side4 ?side5 A4.out).mono ?_); (case side1 => repeat (first | (with_reducible first | exact HI334.out | apply IsS144.alloc | apply IsS144.drewN | apply IsS144.drew | apply IsS144.set_1 | apply IsS144.set_2 | refine IsS144.far ?_ NB334_330.out _ | refine IsS144.far ?_ NB334_339.out _) | exact HI334.out)); (case side2 => repeat (first | (with_reducible first | exact HB.out | apply below_alloc | apply pw_below_drewN | apply below_drew1 | refine below_set ?_ (IsS144.ge HI334.out) | refine below_set ?_ GE330.out | refine below_set ?_ GE339.out) | exact HB.out)); (case side3 => repeat (first | exact (Kd.R_reads' HO342.out).2.2 | (with_reducible refine Kd.C_alloc ?_ _) | (with_reducible refine Kd.C_drewN ?_ _) | (with_reducible refine Kd.C_drew ?_))); (case side4 => exact (Kd.R_reads' HO342.out).2.1); (case side5 => exact far_slice (IsS144.own_ne HI334.out HO342.out (by decide))); rintro e w40 ⟨rfl, hi, hb, hk⟩; refine ⟨_, rfl, ?_⟩; have n0_ := am (KeepBut.blk hk (g' := gb330) (o := .cells #[.int .i64 0, .int .i64 0] 33 (0, 0)) (by (with_reducible repeat (first | refine blk_drewN ?_ _ | refine blk_drew ?_ | refine blk_alloc ?_ _)); exact BK330.out) NB330_334.out (by simp)); have n1_ := am (KeepBut.blk hk (g' := gb339) (o := .cells #[.int .i64 t335, .int .i64 t336] 33 (0, 0)) (by (with_reducible repeat (first | refine blk_drewN ?_ _ | refine blk_drew ?_ | refine blk_alloc ?_ _)); exact BK339.out) NB339_334.out (by simp)); have n2_ := am (Kd.R_mono (Kd.R_keep (IsS144.apart (show IsS144 w _ g334 t331 t337 t338 from by repeat (first | (with_reducible first | exact HI334.out | apply IsS144.alloc | apply IsS144.drewN | apply IsS144.drew | apply IsS144.set_1 | apply IsS144.set_2 | refine IsS144.far ?_ NB334_330.out _ | refine IsS144.far ?_ NB334_339.out _) | exact HI334.out)) (by (with_reducible repeat (first | apply Kd.R_alloc | apply Kd.R_drewN | apply Kd.R_drew)); exact HO342.out) (by decide)) hk (fun _ h => h.2)) (fun _ h => h.1)); have n3_ := am (hb); have n4_ := am (hi); clear BK330; clear BK339; clear HO342; clear HB; clear HI334; have BK330 := n0_; have BK339 := n1_; have HO342 := n2_; have HB := n3_; have HI334 := n4_; clear n0_ n1_ n2_ n3_ n4_; (try clear hb); (try clear hb2); (try clear hk); (try clear hi)) | ((with_reducible refine gate_callee (f := 100) rfl ?_); refine goesL_ (some 16) rfl rfl Try.func100 (by kernel_rfl) rfl #[.pointer (some ⟨g334, 0, none⟩), .int .i64 9] rfl (by (try simp only [List.map_toArray, List.map_cons, List.map_nil]); first | done | rfl | (simp only [List.length_drop, List.length_take]; rfl)) ?_; (with_reducible refine (spec_l1Once.calls g334 t331 t344 t345 9 false t347 t348 w _ ?side1 ?side2 A5.out).mono ?_); (case side1 => repeat (first | (with_reducible first | exact HI334.out | apply IsS144.alloc | apply IsS144.drewN | apply IsS144.drew | apply IsS144.set_1 | apply IsS144.set_2 | refine IsS144.far ?_ NB334_330.out _ | refine IsS144.far ?_ NB334_339.out _) | exact HI334.out)); (case side2 => repeat (first | (with_reducible first | exact HB.out | apply below_alloc | apply pw_below_drewN | apply below_drew1 | refine below_set ?_ (IsS144.ge HI334.out) | refine below_set ?_ GE330.out | refine below_set ?_ GE339.out) | exact HB.out)); rintro e w41 ⟨rfl, hi, hb, hk⟩; refine ⟨_, rfl, ?_⟩; have n0_ := am (KeepBut.blk hk (g' := gb330) (o := .cells #[.int .i64 0, .int .i64 0] 33 (0, 0)) (by (with_reducible repeat (first | refine blk_drewN ?_ _ | refine blk_drew ?_ | refine blk_alloc ?_ _)); exact BK330.out) NB330_334.out (by simp)); have n1_ := am (KeepBut.blk hk (g' := gb339) (o := .cells #[.int .i64 t335, .int .i64 t336] 33 (0, 0)) (by (with_reducible repeat (first | refine blk_drewN ?_ _ | refine blk_drew ?_ | refine blk_alloc ?_ _)); exact BK339.out) NB339_334.out (by simp)); have n2_ := am (Kd.R_mono (Kd.R_keep (IsS144.apart (show IsS144 w _ g334 t331 t344 t345 from by repeat (first | (with_reducible first | exact HI334.out | apply IsS144.alloc | apply IsS144.drewN | apply IsS144.drew | apply IsS144.set_1 | apply IsS144.set_2 | refine IsS144.far ?_ NB334_330.out _ | refine IsS144.far ?_ NB334_339.out _) | exact HI334.out)) (by (with_reducible repeat (first | apply Kd.R_alloc | apply Kd.R_drewN | apply Kd.R_drew)); exact HO342.out) (by decide)) hk (fun _ h => h.2)) (fun _ h => h.1)); have n3_ := am (hb); have n4_ := am (hi); clear BK330; clear BK339; clear HO342; clear HB; clear HI334; have BK330 := n0_; have BK339 := n1_; have HO342 := n2_; have HB := n3_; have HI334 := n4_; clear n0_ n1_ n2_ n3_ n4_; (try clear hb); (try clear hb2); (try clear hk); (try clear hi)))
    have n0_ := am (Kd.R_drew HO342.out)
    have n1_ := am (blk_drew BK330.out)
    have n2_ := am (blk_drew BK339.out)
    have n3_ := am (IsS144.drew HI334.out)
    have n4_ := am (below_drew1 HB.out)
    clear HO342
    clear BK330
    clear BK339
    clear HI334
    clear HB
    have HO342 := n0_
    have BK330 := n1_
    have BK339 := n2_
    have HI334 := n3_
    have HB := n4_
    clear n0_ n1_ n2_ n3_ n4_
    refine start_ (n := 8) (S := fun w' => w'.cell? ⟨gb339, 0, none⟩ = some (.int .i64 t335) ∧ w'.cell? ⟨gb339, 1, none⟩ = some (.int .i64 t336)) (ds := []) #[false, false, false, false, false, false, false, false] (by kernel_rfl) rfl rfl ⟨(blk_cell BK339.out 0).trans rfl, (blk_cell BK339.out 1).trans rfl⟩ (fun hHeld => ?_); refine with_tabW spec_DrawLendGrants.tab6 spec_DrawLendGrants.bits6 (fun HT_ HW_ => ?_)
    generalize w41.drew = w42 at HO342 BK330 BK339 HI334 HB hHeld ⊢
    refine pure_ (i := 0) (N := some 18) (v := ?_) (a' := ?_) #[true, false, false, false, false, false, false, false] rfl rfl (any_of HT_.out (by kernel_rfl)) (fun _ _ _ h => h) (Or.inl ⟨by rfl, ?_⟩) ?_ ?_
    rotate_left
    · intro w'
      go_simp
      with_reducible rfl
    rotate_left
    · simp only [Act.put, List.setIfInBounds_toArray, List.set_cons_zero, List.set_cons_succ, i64_w, i32_w]
      rfl
    refine pure_ (i := 2) (N := some 20) (v := ?_) (a' := ?_) #[true, false, true, false, false, false, false, false] rfl rfl (any_of HT_.out (by kernel_rfl)) (fun _ _ _ h => h) (Or.inl ⟨by rfl, ?_⟩) ?_ ?_
    rotate_left
    · intro w'
      go_simp
      with_reducible rfl
    rotate_left
    · simp only [Act.put, List.setIfInBounds_toArray, List.set_cons_zero, List.set_cons_succ, i64_w, i32_w]
      rfl
    refine take_ (i := 1) (N := some 19) (v := ?_) (a' := ?_) #[true, true, true, false, false, false, false, false] rfl rfl (take_ofW HT_.out HW_.out (by kernel_rfl)) (fun _ _ _ h => h) (Or.inl ⟨by rfl, ?_⟩) hHeld ?_ ?_
    rotate_left
    · rintro w' ⟨s0, s1⟩
      go_simp
      with_reducible rfl
    rotate_left
    · simp only [Act.put, List.setIfInBounds_toArray, List.set_cons_zero, List.set_cons_succ, i64_w, i32_w]
      rfl
    refine one_ (i := 3) (N := some 21) #[true, true, true, true, false, false, false, false] rfl rfl (one_of HT_.out (by kernel_rfl)) (by decide) (fun K hK => ?_)
    refine Kd.R_lit_step (Kd.int .i64) _ 3 ?hg (N := 21) ?hd (xs := ([0, 3, 9995, 9996, (-1)] : List Int)) (inner := [.int .i64 0, .int .i64 3, .int .i64 9995, .int .i64 9996, .int .i64 (-1)]) (ok := fun _ => True) (okp := fun _ => True) ?hr ?hp (fun _ hk => hk) trivial (Below.refl _ _) (Nat.le_refl _) (by simp) ?_; (case hd => rfl); (case hg => rfl); (case hr => first | (go_simp; done) | (go_simp; rfl)); (case hp => exact (Reps.one (show Kd.M (Kd.int .i64) _ _ _ 0 [.int .i64 0] from rfl) (Reps.one (show Kd.M (Kd.int .i64) _ _ _ 3 [.int .i64 3] from rfl) (Reps.one (show Kd.M (Kd.int .i64) _ _ _ 9995 [.int .i64 9995] from rfl) (Reps.one (show Kd.M (Kd.int .i64) _ _ _ 9996 [.int .i64 9996] from rfl) (Reps.one (show Kd.M (Kd.int .i64) _ _ _ (-1) [.int .i64 (-1)] from rfl) (Reps.none _ _)))))))
    intro v356 w43 ho44 hb hg_ hnew_
    clear hg_ hnew_
    (first | rw [← Ny355.out] at ho44 | (simp only [Int.reduceToNat] at ho44; rw [← Ny355.out] at ho44))
    have n0_ := am (Kd.R_elder' (by (with_reducible repeat (first | apply Kd.R_alloc | apply Kd.R_drewN | apply Kd.R_drew)); exact HO342.out) (Kd.R_base ho44) hb)
    have n1_ := am (Kd.R_lower (Kd.R_new' ho44 (Kd.R_lt (by (with_reducible repeat (first | apply Kd.R_alloc | apply Kd.R_drewN | apply Kd.R_drew)); exact HO342.out))) (below_size (by repeat (first | (with_reducible first | exact HB.out | apply below_alloc | apply pw_below_drewN | apply below_drew1 | refine below_set ?_ (IsS144.ge HI334.out) | refine below_set ?_ GE330.out | refine below_set ?_ GE339.out) | exact HB.out))))
    have n2_ := am (blk_below (by (with_reducible repeat (first | refine blk_drewN ?_ _ | refine blk_drew ?_ | refine blk_alloc ?_ _)); exact BK330.out) hb)
    have n3_ := am (IsS144.below (by repeat (first | (with_reducible first | exact HI334.out | apply IsS144.alloc | apply IsS144.drewN | apply IsS144.drew | apply IsS144.set_1 | apply IsS144.set_2 | refine IsS144.far ?_ NB334_330.out _ | refine IsS144.far ?_ NB334_339.out _) | exact HI334.out)) hb)
    have n4_ := am (blk_below (by (with_reducible repeat (first | refine blk_drewN ?_ _ | refine blk_drew ?_ | refine blk_alloc ?_ _)); exact BK339.out) hb)
    have n5_ := am (below_step (by repeat (first | (with_reducible first | exact HB.out | apply below_alloc | apply pw_below_drewN | apply below_drew1 | refine below_set ?_ (IsS144.ge HI334.out) | refine below_set ?_ GE330.out | refine below_set ?_ GE339.out) | exact HB.out)) hb)
    clear HO342
    clear BK330
    clear HI334
    clear BK339
    clear HB
    have HO342 := n0_
    have HO357 := n1_
    have BK330 := n2_
    have HI334 := n3_
    have BK339 := n4_
    have HB := n5_
    clear n0_ n1_ n2_ n3_ n4_ n5_
    clear hb ho44
    obtain ⟨Ao45, co45, eo45⟩ := Kd.R_slice HO357.out
    (first | subst eo45 | (injection eo45 with f1_ f2_ f3_; have f4_ := f1_.symm; have f5_ := f3_.symm; clear f1_ f2_ f3_; subst f4_; subst f5_))
    refine hK.out _ _ ⟨(blk_cell BK339.out 0).trans rfl, (blk_cell BK339.out 1).trans rfl⟩ (fun hHeld => ?_)
    clear hK K
    refine norm_ (a' := ?_) ?_ ?_
    rotate_left
    · show Act.put _ (some 21) _ = _
      simp only [Act.put, List.setIfInBounds_toArray, List.set_cons_zero, List.set_cons_succ, i64_w, i32_w]
      rfl
    refine one_ (i := 4) (N := some 22) #[true, true, true, true, true, false, false, false] rfl rfl (one_of HT_.out (by kernel_rfl)) (by decide) (fun K hK => ?_)
    refine goes_ Try.func135 (by kernel_rfl) rfl #[.pointer (some ⟨g334, 0, none⟩), .slice Ao45 y355.length co45] (by rfl) rfl rfl (by (try simp only [List.map_toArray, List.map_cons, List.map_nil]); first | done | rfl | (simp only [List.length_drop, List.length_take]; rfl)) ?_
    with_reducible refine (spec_l1Int.calls g334 t331 t347 t348 _ _ y355 t358 t359 t360 w _ ?side1 ?side2 ?side3 ?side4 ?side5 A29.out).mono ?_
    (case side1 => repeat (first | (with_reducible first | exact HI334.out | apply IsS144.alloc | apply IsS144.drewN | apply IsS144.drew | apply IsS144.set_1 | apply IsS144.set_2 | refine IsS144.far ?_ NB334_330.out _ | refine IsS144.far ?_ NB334_339.out _) | exact HI334.out))
    (case side2 => repeat (first | (with_reducible first | exact HB.out | apply below_alloc | apply pw_below_drewN | apply below_drew1 | refine below_set ?_ (IsS144.ge HI334.out) | refine below_set ?_ GE330.out | refine below_set ?_ GE339.out) | exact HB.out))
    (case side3 => repeat (first | exact (Kd.R_reads' HO357.out).2.2 | (with_reducible refine Kd.C_alloc ?_ _) | (with_reducible refine Kd.C_drewN ?_ _) | (with_reducible refine Kd.C_drew ?_)))
    (case side4 => exact (Kd.R_reads' HO357.out).2.1)
    (case side5 => exact far_slice (IsS144.own_ne HI334.out HO357.out (by decide)))
    rintro e w46 ⟨rfl, hi, hb, hk⟩
    refine ⟨_, rfl, ?_⟩
    have n0_ := am (KeepBut.blk hk (g' := gb330) (o := .cells #[.int .i64 0, .int .i64 0] 33 (0, 0)) (by (with_reducible repeat (first | refine blk_drewN ?_ _ | refine blk_drew ?_ | refine blk_alloc ?_ _)); exact BK330.out) NB330_334.out (by simp))
    have n1_ := am (KeepBut.blk hk (g' := gb339) (o := .cells #[.int .i64 t335, .int .i64 t336] 33 (0, 0)) (by (with_reducible repeat (first | refine blk_drewN ?_ _ | refine blk_drew ?_ | refine blk_alloc ?_ _)); exact BK339.out) NB339_334.out (by simp))
    have n2_ := am (Kd.R_mono (Kd.R_keep (IsS144.apart (show IsS144 w _ g334 t331 t347 t348 from by repeat (first | (with_reducible first | exact HI334.out | apply IsS144.alloc | apply IsS144.drewN | apply IsS144.drew | apply IsS144.set_1 | apply IsS144.set_2 | refine IsS144.far ?_ NB334_330.out _ | refine IsS144.far ?_ NB334_339.out _) | exact HI334.out)) (by (with_reducible repeat (first | apply Kd.R_alloc | apply Kd.R_drewN | apply Kd.R_drew)); exact HO342.out) (by decide)) hk (fun _ h => h.2)) (fun _ h => h.1))
    have n3_ := am (Kd.R_mono (Kd.R_keep (IsS144.apart (show IsS144 w _ g334 t331 t347 t348 from by repeat (first | (with_reducible first | exact HI334.out | apply IsS144.alloc | apply IsS144.drewN | apply IsS144.drew | apply IsS144.set_1 | apply IsS144.set_2 | refine IsS144.far ?_ NB334_330.out _ | refine IsS144.far ?_ NB334_339.out _) | exact HI334.out)) (by (with_reducible repeat (first | apply Kd.R_alloc | apply Kd.R_drewN | apply Kd.R_drew)); exact HO357.out) (by decide)) hk (fun _ h => h.2)) (fun _ h => h.1))
    have n4_ := am (hb)
    have n5_ := am (hi)
    clear BK330
    clear BK339
    clear HO342
    clear HO357
    clear HB
    clear HI334
    have BK330 := n0_
    have BK339 := n1_
    have HO342 := n2_
    have HO357 := n3_
    have HB := n4_
    have HI334 := n5_
    clear n0_ n1_ n2_ n3_ n4_ n5_
    (try clear hb)
    (try clear hb2)
    (try clear hk)
    (try clear hi)
    refine hK.out _ _ ⟨(blk_cell BK339.out 0).trans rfl, (blk_cell BK339.out 1).trans rfl⟩ (fun hHeld => ?_)
    clear hK K
    refine norm_ (a' := ?_) ?_ ?_
    rotate_left
    · show Act.put _ (some 22) _ = _
      simp only [Act.put, List.setIfInBounds_toArray, List.set_cons_zero, List.set_cons_succ, i64_w, i32_w]
      rfl
    refine pure_ (i := 5) (N := some 2) (v := ?_) (a' := ?_) #[true, true, true, true, true, true, false, false] rfl rfl (any_of HT_.out (by kernel_rfl)) (fun _ _ _ h => h) (Or.inl ⟨by rfl, ?_⟩) ?_ ?_
    rotate_left
    · intro w'
      go_simp
      with_reducible rfl
    rotate_left
    · simp only [Act.put, List.setIfInBounds_toArray, List.set_cons_zero, List.set_cons_succ, i64_w, i32_w]
      rfl
    refine one_ (i := 6) (N := none) #[true, true, true, true, true, true, true, false] rfl rfl (one_of HT_.out (by kernel_rfl)) (by decide) (fun K hK => ?_)
    have hs47 : w46.cell? ⟨gb330, 0, none⟩ = some (.int .i64 0) := (blk_cell BK330.out 0).trans rfl
    have hfs47 := blk_frozen BK330.out 0
    have hns47_1 := NB339_330.out
    have hms47_1 := NB330_339.out
    have hs48 : w46.cell? ⟨gb330, 1, none⟩ = some (.int .i64 0) := (blk_cell BK330.out 1).trans rfl
    have hfs48 := blk_frozen BK330.out 1
    have hns48_1 := NB339_330.out
    have hms48_1 := NB330_339.out
    refine skip_ (w1 := ?_) (by rfl) rfl ?_ ?_
    rotate_left
    · go_simp
      rfl
    refine hK.out _ _ ⟨((cell_far (p := ⟨gb330, _, none⟩) NB339_330.out _).trans (((cell_far (p := ⟨gb330, _, none⟩) NB339_330.out _).trans (hHeld.1)))), ((cell_far (p := ⟨gb330, _, none⟩) NB339_330.out _).trans (((cell_far (p := ⟨gb330, _, none⟩) NB339_330.out _).trans (hHeld.2))))⟩ (fun hHeld => ?_)
    clear hK K
    refine pure_ (i := 7) (N := some 4) (v := ?_) (a' := ?_) #[true, true, true, true, true, true, true, true] rfl rfl (any_of HT_.out (by kernel_rfl)) (fun _ _ _ h => h) (Or.inl ⟨by rfl, ?_⟩) ?_ ?_
    rotate_left
    · intro w'
      go_simp
      with_reducible rfl
    rotate_left
    · simp only [Act.put, List.setIfInBounds_toArray, List.set_cons_zero, List.set_cons_succ, i64_w, i32_w]
      rfl
    refine done_ (done_of HT_.out (by kernel_rfl)) ?_
    try go_wp2
    refine bodyPost_ret (results_list (rs := [.tmp 2, .cell 3 33, .tmp 4]) rfl (by simp) (.tmp (.cell gb330 33 #[.int .i64 t335, .int .i64 t336] (0, 0) _ rfl (by (with_reducible repeat (first | refine blk_drewN ?_ _ | refine blk_drew ?_ | refine blk_alloc ?_ _)); refine blk_put (cs := #[.int .i64 t335, .int .i64 0]) ?_ 1 _ rfl; (with_reducible repeat (first | refine blk_drewN ?_ _ | refine blk_drew ?_ | refine blk_alloc ?_ _)); refine blk_put (cs := #[.int .i64 0, .int .i64 0]) ?_ 0 _ rfl; (with_reducible repeat (first | refine blk_drewN ?_ _ | refine blk_drew ?_ | refine blk_alloc ?_ _)); exact BK330.out) Try.underlying33 rfl (by kernel_rfl) (.tmp .nil)))) rfl ?_
    exact ⟨by first | rfl | (simp [errW_none, errW_some] <;> rfl) | (simp [*, errW_none, errW_some] <;> rfl), by repeat (first | (with_reducible first | exact HB.out | apply below_alloc | apply pw_below_drewN | apply below_drew1 | refine below_set ?_ (IsS144.ge HI334.out) | refine below_set ?_ GE330.out | refine below_set ?_ GE339.out) | exact HB.out)⟩

end Go.Proofs.Ytacgichgadoddaa.QM
