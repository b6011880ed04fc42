/- Go functions as Lean functions, each with its walk; printed by a program of this session (a scratch copy of print.py that follows nested field addresses and tells a law for the answer true). -/
import Derived.Test.YtepndcpncndjdaaQSx0
import Derived.Test.YtepndcpncndjdaaQSx63
namespace Go.Proofs.Ytepndcpncndjdaa.QS
open Go.RowKit Go.Proofs.YtepndcpncndjdaaW.PrintWords Go.Proofs.YtepndcpncndjdaaW.PrintLast Go.Proofs.YtepndcpncndjdaaW.PrintMore Go.Proofs.Ytepndcpncndjdaa.Short
attribute [local go_sem] max2_int min2_int max_two min_two max_three min_three max_four min_four   -- for this text's walks alone
set_option linter.unusedVariables false
set_option linter.unusedSimpArgs false

/-! ### impl_AppliesTo: function 27 -/
def impl_AppliesTo.l0 : Nat → List Int → List (S37) → Int → Int → Int → Int → Int → Option (List Int)
 | 0, _, _, _, _, _, _, _ => none
 | k + 1, x5, x9, x10, x11, x678000, x678001, x678002 => if x11 < x10 then (if 0 ≤ x11 then (if x11 < (x9.length : Int) then ((impl_Applies.f k ((rd_T37 x9 x11).f0) ((rd_T37 x9 x11).f1) ((rd_T37 x9 x11).f2.f0) ((rd_T37 x9 x11).f2.f1) ((rd_T37 x9 x11).f3) ((rd_T37 x9 x11).f4) ((rd_T37 x9 x11).f5.f0) ((rd_T37 x9 x11).f5.f1) x678000 x678001 x678002).bind fun t683 => (if t683 = true then (if x5.length < 17592186044416 then (impl_AppliesTo.l0 k (x5 ++ [x11]) x9 x10 (wrap64 (x11 + 1)) x678000 x678001 x678002) else (none)) else (impl_AppliesTo.l0 k x5 x9 x10 (wrap64 (x11 + 1)) x678000 x678001 x678002))) else (none)) else (none)) else (some x5)
def impl_AppliesTo.f (k : Nat) (l0 : List (S37)) (a1_0 : Int) (a1_1 : Int) (a1_2 : Int) : Option (List Int) := impl_AppliesTo.l0 k (([] : List Int)) l0 (l0.length : Int) 0 a1_0 a1_1 a1_2
theorem impl_AppliesTo.mono_l : ∀ k, (∀ y0 y1 y2 y3 y4 y5 y6, LeO (impl_AppliesTo.l0 k y0 y1 y2 y3 y4 y5 y6) (impl_AppliesTo.l0 (k + 1) y0 y1 y2 y3 y4 y5 y6))
 | 0 => fun _ _ _ _ _ _ _ r h => by simp [impl_AppliesTo.l0] at h
 | k + 1 => by
  have ih0 := impl_AppliesTo.mono_l k
  ·intro y0 y1 y2 y3 y4 y5 y6
   unfold impl_AppliesTo.l0
   repeat' first
   | (with_reducible exact ih0 _ _ _ _ _ _ _)
   | (with_reducible exact impl_Applies.mono _ _ _ _ _ _ _ _ _ _ _ _)
   | (with_reducible exact LeO.refl _)
   | (with_reducible exact LeO.none _)
   | (with_reducible refine LeO.ite ?_ ?_)
   | (with_reducible refine LeO.bind ?_ (fun _ => ?_))
   | exact ih0 _ _ _ _ _ _ _
   | exact impl_Applies.mono _ _ _ _ _ _ _ _ _ _ _ _
   | exact LeO.none _
   | refine LeO.ite ?_ ?_
   | refine LeO.bind ?_ (fun _ => ?_)
theorem impl_AppliesTo.mono : ∀ a0 a1 a2 a3 k, LeO (impl_AppliesTo.f k a0 a1 a2 a3) (impl_AppliesTo.f (k + 1) a0 a1 a2 a3) := by
 intro a0 a1 a2 a3 k
 have ih0 := impl_AppliesTo.mono_l k
 unfold impl_AppliesTo.f
 repeat' first
   | (with_reducible exact ih0 _ _ _ _ _ _ _)
   | (with_reducible exact impl_Applies.mono _ _ _ _ _ _ _ _ _ _ _ _)
   | (with_reducible exact LeO.refl _)
   | (with_reducible exact LeO.none _)
   | (with_reducible refine LeO.ite ?_ ?_)
   | (with_reducible refine LeO.bind ?_ (fun _ => ?_))
   | exact ih0 _ _ _ _ _ _ _
   | exact impl_Applies.mono _ _ _ _ _ _ _ _ _ _ _ _
   | exact LeO.none _
   | refine LeO.ite ?_ ?_
   | refine LeO.bind ?_ (fun _ => ?_)
set_option maxHeartbeats 8000000 in
set_option maxRecDepth 100000 in
theorem impl_AppliesTo.calls (k : Nat) (A0 : Option Addr) (c0 : Nat) (l0 : List (S37)) (a1_0 : Int) (a1_1 : Int) (a1_2 : Int) (r : List Int) (w : World) (hr0 : Kd.C k37 w A0 l0.length l0) (hc0 : l0.length ≤ c0) (h : impl_AppliesTo.f k l0 a1_0 a1_1 a1_2 = some r) :
  Calls Try.prog 27 #[.slice A0 l0.length c0, .agg #[.int .i64 a1_0, .int .i64 a1_1, .int .i64 a1_2]] w fun e w' => ∃ v0_ : Value, e = .returned (v0_) ∧ Kd.R (Kd.int .i64) 3 w' w.heap.size (fun _ => True) v0_ r ∧ Below w.heap.size w w' := by
 have hu28 := Try.underlying28
 have hu37 := Try.underlying37
 have HR0 := Aside0.mk hr0
 have HC0 := Aside0.mk hc0
 clear hr0 hc0
 have HB := am (Below.refl w.heap.size w)
 have H : (impl_AppliesTo.l0 k (([] : List Int)) l0 (l0.length : Int) 0 a1_0 a1_1 a1_2) = some r := h
 clear h
 obtain ⟨y678, hy678⟩ : ∃ y_ : List Int, y_ = (([] : List Int)) := ⟨_, rfl⟩
 replace H : (impl_AppliesTo.l0 k y678 l0 (l0.length : Int) 0 a1_0 a1_1 a1_2) = some r := by first | (rw [hy678]; with_reducible exact H) | (have H2_ := (Option.bind_some _ _).symm.trans H; rw [hy678]; with_reducible exact H2_) | (have H2_ := (Option.bind_some _ _).symm.trans H; with_reducible exact H2_) | with_reducible exact H | (rw [hy678]; exact H) | exact H
 have Ny678 := Aside0.mk hy678
 clear hy678
 have H' := Aside0.mk H
 clear H
 go_enter Try.func27, Try.ntmps27
 go_wp2_with (first | ((with_reducible refine gate_dst (N := 3) rfl ?_); refine box_event ?hg (N := 3) ?hd (cs := #[.int .i64 a1_0, .int .i64 a1_1, .int .i64 a1_2]) (t := 28) ?hr ?_; (case hd => rfl); (case hg => rfl); (case hr => first | (go_simp; done) | (go_simp; rfl)); intro gb677 hg w3 hbox hb; have q_ := hbx_ (sB HB.out) hg hb; have n0_ := q_.1; have n1_ := am (hbox); have n2_ := q_.2; have n3_ := n2_; clear HB; have HB := n0_; have BK677 := n1_; have GW677 := n2_; have GE677 := n3_; clear n0_ n1_ n2_ n3_ hb hbox hg) | ((with_reducible refine gate_dst (N := 8) rfl ?_); refine Kd.R_lit (Kd.int .i64) _ 3 ?hg (N := 8) ?hd (xs := ([] : List Int)) (inner := []) (ok := fun _ => True) (okp := fun _ => True) ?hr ?hp (fun _ hk => hk) trivial (Below.refl _ _) (Nat.le_refl _) (by simp) ?_; (case hd => rfl); (case hg => rfl); (case hr => first | (go_simp; done) | (go_simp; rfl)); (case hp => exact (Reps.none _ _)); intro v679 w4 ho5 hb hg_ hnew_; clear hg_ hnew_; (first | rw [← Ny678.out] at ho5 | (simp only [Int.reduceToNat] at ho5; rw [← Ny678.out] at ho5)); have n0_ := am (Kd.R_lower ho5 (below_size (sB HB.out))); have n1_ := am (blk_below (bB BK677.out) hb); have n2_ := am (below_step (sB HB.out) hb); clear BK677; clear HB; have HO680 := n0_; have BK677 := n1_; have HB := n2_; clear n0_ n1_ n2_; clear hb ho5))
 go_loopg [5, 11] k (fun kq v5 v11 w' => ∃ (x5_1 : List Int) (x11_1 : Int), v11 = .int .i64 x11_1 ∧ Aside0 (impl_AppliesTo.l0 kq x5_1 l0 (l0.length : Int) x11_1 a1_0 a1_1 a1_2 = some r) ∧ Aside0 (kq ≤ k) ∧ Aside0 (Kd.R (Kd.int .i64) 3 w' w.heap.size (fun _ => True) v5 x5_1) ∧ Aside0 (w'.heap[gb677]? = some (.cells #[.int .i64 a1_0, .int .i64 a1_1, .int .i64 a1_2] 28 (0, 0))) ∧ Aside0 (Below w.heap.size w w'))
 case atStart => exact ⟨(y678), (0), (by first | rfl | (simp; done) | (simp [*]; done)), H', ⟨Nat.le_refl _⟩, ⟨by (with_reducible repeat (first | apply Kd.R_alloc | apply Kd.R_drewN | apply Kd.R_drew)); exact HO680.out⟩, ⟨bB BK677.out⟩, ⟨sB HB.out⟩⟩
 case round =>
  clear H'
  try clear c2
  try clear p2
  obtain ⟨x5_1, x11_1, rfl, HA, HK1, HO_5, BK677, HB⟩ := hrel
  cases gk with
  | zero => exact absurd HA.out (by simp [impl_AppliesTo.l0])
  | succ k1 =>
   have H := HA.out
   clear HA
   simp only [impl_AppliesTo.l0] at H
   by_cases c6 : x11_1 < (l0.length : Int)
   ·rw [if_pos c6] at H
    have c6b0 : decide (x11_1 < (l0.length : Int)) = true := decide_eq_true c6
    clear c6
    by_cases c7 : 0 ≤ x11_1
    ·rw [if_pos c7] at H
     have c7b0 : decide (0 ≤ x11_1) = true := decide_eq_true c7
     clear c7
     by_cases c8 : x11_1 < (l0.length : Int)
     ·rw [if_pos c8] at H
      have c8b0 : decide (x11_1 < (l0.length : Int)) = true := decide_eq_true c8
      clear c8
      replace H := Option.bind_eq_some_iff.mp H
      obtain ⟨t683, A90, H⟩ := H
      replace H : (if t683 = true then (if x5_1.length < 17592186044416 then (impl_AppliesTo.l0 k1 (x5_1 ++ [x11_1]) l0 (l0.length : Int) (wrap64 (x11_1 + 1)) a1_0 a1_1 a1_2) else (none)) else (impl_AppliesTo.l0 k1 x5_1 l0 (l0.length : Int) (wrap64 (x11_1 + 1)) a1_0 a1_1 a1_2)) = some r := H
      have A9 := Aside0.mk A90
      clear A90
      by_cases c10 : t683 = true
      ·subst c10
       have H1 : (if x5_1.length < 17592186044416 then (impl_AppliesTo.l0 k1 (x5_1 ++ [x11_1]) l0 (l0.length : Int) (wrap64 (x11_1 + 1)) a1_0 a1_1 a1_2) else (none)) = some r := by rw [if_pos rfl] at H; exact H
       clear H
       have H := H1
       clear H1
       by_cases c11 : x5_1.length < 17592186044416
       ·rw [if_pos c11] at H
        have LMc11 := Aside0.mk c11
        clear c11
        obtain ⟨y684, hy684⟩ : ∃ y_ : List Int, y_ = (x5_1 ++ [x11_1]) := ⟨_, rfl⟩
        replace H : (impl_AppliesTo.l0 k1 y684 l0 (l0.length : Int) (wrap64 (x11_1 + 1)) a1_0 a1_1 a1_2) = some r := by first | (rw [hy684]; with_reducible exact H) | (have H2_ := (Option.bind_some _ _).symm.trans H; rw [hy684]; with_reducible exact H2_) | (have H2_ := (Option.bind_some _ _).symm.trans H; with_reducible exact H2_) | with_reducible exact H | (rw [hy684]; exact H) | exact H
        have Ny684 := Aside0.mk hy684
        clear hy684
        have H' := Aside0.mk H
        clear H
        have p681 : 0 ≤ (x11_1 : Int) := of_decide_eq_true (by first | (with_reducible assumption) | assumption)
        have q681 : x11_1 < (l0.length : Int) := of_decide_eq_true (by first | (with_reducible assumption) | assumption)
        obtain ⟨ad681, e681, hx681_0, hx681_1, hx681_2, hx681_3, hx681_4, hx681_5, hx681_6, hx681_7⟩ := at_T37 HR0.out x11_1 p681 q681
        cases e681
        replace hx681_0 := hc_ HB hx681_0
        replace hx681_1 := hc_ HB hx681_1
        replace hx681_2 := hc_ HB hx681_2
        replace hx681_3 := hc_ HB hx681_3
        replace hx681_4 := hc_ HB hx681_4
        replace hx681_5 := hc_ HB hx681_5
        replace hx681_6 := hc_ HB hx681_6
        replace hx681_7 := hc_ HB hx681_7
        replace p681 := eq_true p681
        replace q681 := eq_true q681
        go_wp2_with (first | ((with_reducible refine gate_dst (N := 7) rfl ?_); refine box_event ?hg (N := 7) ?hd (cs := #[.int .i64 0, .int .i64 0, .int .i64 0, .int .i64 0, .int .i64 0, .int .i64 0, .int .i64 0, .int .i64 0]) (t := 37) ?hr ?_; (case hd => rfl); (case hg => rfl); (case hr => first | (go_simp; done) | (go_simp; rfl)); intro gb682 hg w12 hbox hb; have n0_ := am (Kd.R_below (rB HO_5.out) hb); have n1_ := am (blk_below (bB BK677.out) hb); have q_ := hbx_ (sB HB.out) hg hb; have n2_ := q_.1; have n3_ := am (hbox); have n4_ := q_.2; have n5_ := n4_; have n6_ := am ((by rw [hg]; exact Nat.ne_of_lt (blk_lt (g := gb677) (o := .cells #[.int .i64 a1_0, .int .i64 a1_1, .int .i64 a1_2] 28 (0, 0)) (bB BK677.out)) : gb677 ≠ gb682)); have n7_ := am ((by rw [hg]; exact Nat.ne_of_gt (blk_lt (g := gb677) (o := .cells #[.int .i64 a1_0, .int .i64 a1_1, .int .i64 a1_2] 28 (0, 0)) (bB BK677.out)) : gb682 ≠ gb677)); clear HO_5; clear BK677; clear HB; have HO_5 := n0_; have BK677 := n1_; have HB := n2_; have BK682 := n3_; have GW682 := n4_; have GE682 := n5_; have NB677_682 := n6_; have NB682_677 := n7_; clear n0_ n1_ n2_ n3_ n4_ n5_ n6_ n7_; clear hb hbox hg; have hnb13 := NB682_677.out; have hnc13 := NB677_682.out; obtain ⟨hcz14_0, hcz14_1, hcz14_2, hcz14_3, hcz14_4, hcz14_5, hcz14_6, hcz14_7, hfz14_0, hfz14_1, hfz14_2, hfz14_3, hfz14_4, hfz14_5, hfz14_6, hfz14_7⟩ := blk8 BK682.out; obtain ⟨hcz15_0, hcz15_1, hcz15_2, hfz15_0, hfz15_1, hfz15_2⟩ := blk3 BK677.out) | ((with_reducible refine gate_callee (f := 13) rfl ?_); refine goesL_ (some 18) rfl rfl Try.func13 (by kernel_rfl) rfl #[.agg #[.int .i64 ((rd_T37 l0 x11_1).f0), .int .i64 ((rd_T37 l0 x11_1).f1), .int .i64 ((rd_T37 l0 x11_1).f2.f0), .int .i64 ((rd_T37 l0 x11_1).f2.f1), .int .i64 ((rd_T37 l0 x11_1).f3), .int .i64 ((rd_T37 l0 x11_1).f4), .int .i64 ((rd_T37 l0 x11_1).f5.f0), .int .i64 ((rd_T37 l0 x11_1).f5.f1)], .agg #[.int .i64 a1_0, .int .i64 a1_1, .int .i64 a1_2]] rfl (by (try simp only [List.map_toArray, List.map_cons, List.map_nil]); first | done | rfl | (simp only [List.length_drop, List.length_take]; rfl)) ?_; (with_reducible refine (impl_Applies.calls k1 ((rd_T37 l0 x11_1).f0) ((rd_T37 l0 x11_1).f1) ((rd_T37 l0 x11_1).f2.f0) ((rd_T37 l0 x11_1).f2.f1) ((rd_T37 l0 x11_1).f3) ((rd_T37 l0 x11_1).f4) ((rd_T37 l0 x11_1).f5.f0) ((rd_T37 l0 x11_1).f5.f1) a1_0 a1_1 a1_2 true _ A9.out).mono ?_); rintro e w16 ⟨rfl, hb⟩; refine ⟨_, rfl, ?_⟩; replace HO_5 := am (Kd.R_below (by (with_reducible repeat (first | apply Kd.R_alloc | apply Kd.R_drewN | apply Kd.R_drew)); exact (Kd.R_mono (Kd.R_far (p := ⟨gb682, 7, none⟩) (Kd.R_far (p := ⟨gb682, 6, none⟩) (Kd.R_far (p := ⟨gb682, 5, none⟩) (Kd.R_far (p := ⟨gb682, 4, none⟩) (Kd.R_far (p := ⟨gb682, 3, none⟩) (Kd.R_far (p := ⟨gb682, 2, none⟩) (Kd.R_far (p := ⟨gb682, 1, none⟩) (Kd.R_far (p := ⟨gb682, 0, none⟩) (Kd.R_types HO_5.out BK682.out (by decide)) (fun _ hk => hk.2) (.int .i64 ((rd_T37 l0 x11_1).f0))) (fun _ hk => hk.2) (.int .i64 ((rd_T37 l0 x11_1).f1))) (fun _ hk => hk.2) (.int .i64 ((rd_T37 l0 x11_1).f2.f0))) (fun _ hk => hk.2) (.int .i64 ((rd_T37 l0 x11_1).f2.f1))) (fun _ hk => hk.2) (.int .i64 ((rd_T37 l0 x11_1).f3))) (fun _ hk => hk.2) (.int .i64 ((rd_T37 l0 x11_1).f4))) (fun _ hk => hk.2) (.int .i64 ((rd_T37 l0 x11_1).f5.f0))) (fun _ hk => hk.2) (.int .i64 ((rd_T37 l0 x11_1).f5.f1))) (fun _ h_ => h_.1))) hb); replace BK677 := am (blk_below (g := gb677) (o := .cells #[.int .i64 a1_0, .int .i64 a1_1, .int .i64 a1_2] 28 (0, 0)) (by refine bB ?_; refine blk_far ?_ NB677_682.out _; refine bB ?_; refine blk_far ?_ NB677_682.out _; refine bB ?_; refine blk_far ?_ NB677_682.out _; refine bB ?_; refine blk_far ?_ NB677_682.out _; refine bB ?_; refine blk_far ?_ NB677_682.out _; refine bB ?_; refine blk_far ?_ NB677_682.out _; refine bB ?_; refine blk_far ?_ NB677_682.out _; refine bB ?_; refine blk_far ?_ NB677_682.out _; refine bB ?_; exact BK677.out) hb); replace BK682 := am (blk_below (g := gb682) (o := .cells #[.int .i64 ((rd_T37 l0 x11_1).f0), .int .i64 ((rd_T37 l0 x11_1).f1), .int .i64 ((rd_T37 l0 x11_1).f2.f0), .int .i64 ((rd_T37 l0 x11_1).f2.f1), .int .i64 ((rd_T37 l0 x11_1).f3), .int .i64 ((rd_T37 l0 x11_1).f4), .int .i64 ((rd_T37 l0 x11_1).f5.f0), .int .i64 ((rd_T37 l0 x11_1).f5.f1)] 37 (0, 0)) (by refine bB ?_; refine blk_put (cs := #[.int .i64 ((rd_T37 l0 x11_1).f0), .int .i64 ((rd_T37 l0 x11_1).f1), .int .i64 ((rd_T37 l0 x11_1).f2.f0), .int .i64 ((rd_T37 l0 x11_1).f2.f1), .int .i64 ((rd_T37 l0 x11_1).f3), .int .i64 ((rd_T37 l0 x11_1).f4), .int .i64 ((rd_T37 l0 x11_1).f5.f0), .int .i64 0]) ?_ 7 _ rfl; refine bB ?_; refine blk_put (cs := #[.int .i64 ((rd_T37 l0 x11_1).f0), .int .i64 ((rd_T37 l0 x11_1).f1), .int .i64 ((rd_T37 l0 x11_1).f2.f0), .int .i64 ((rd_T37 l0 x11_1).f2.f1), .int .i64 ((rd_T37 l0 x11_1).f3), .int .i64 ((rd_T37 l0 x11_1).f4), .int .i64 0, .int .i64 0]) ?_ 6 _ rfl; refine bB ?_; refine blk_put (cs := #[.int .i64 ((rd_T37 l0 x11_1).f0), .int .i64 ((rd_T37 l0 x11_1).f1), .int .i64 ((rd_T37 l0 x11_1).f2.f0), .int .i64 ((rd_T37 l0 x11_1).f2.f1), .int .i64 ((rd_T37 l0 x11_1).f3), .int .i64 0, .int .i64 0, .int .i64 0]) ?_ 5 _ rfl; refine bB ?_; refine blk_put (cs := #[.int .i64 ((rd_T37 l0 x11_1).f0), .int .i64 ((rd_T37 l0 x11_1).f1), .int .i64 ((rd_T37 l0 x11_1).f2.f0), .int .i64 ((rd_T37 l0 x11_1).f2.f1), .int .i64 0, .int .i64 0, .int .i64 0, .int .i64 0]) ?_ 4 _ rfl; refine bB ?_; refine blk_put (cs := #[.int .i64 ((rd_T37 l0 x11_1).f0), .int .i64 ((rd_T37 l0 x11_1).f1), .int .i64 ((rd_T37 l0 x11_1).f2.f0), .int .i64 0, .int .i64 0, .int .i64 0, .int .i64 0, .int .i64 0]) ?_ 3 _ rfl; refine bB ?_; refine blk_put (cs := #[.int .i64 ((rd_T37 l0 x11_1).f0), .int .i64 ((rd_T37 l0 x11_1).f1), .int .i64 0, .int .i64 0, .int .i64 0, .int .i64 0, .int .i64 0, .int .i64 0]) ?_ 2 _ rfl; refine bB ?_; refine blk_put (cs := #[.int .i64 ((rd_T37 l0 x11_1).f0), .int .i64 0, .int .i64 0, .int .i64 0, .int .i64 0, .int .i64 0, .int .i64 0, .int .i64 0]) ?_ 1 _ rfl; refine bB ?_; refine blk_put (cs := #[.int .i64 0, .int .i64 0, .int .i64 0, .int .i64 0, .int .i64 0, .int .i64 0, .int .i64 0, .int .i64 0]) ?_ 0 _ rfl; refine bB ?_; exact BK682.out) hb); replace HB := am (below_step (sB HB.out) hb); (try clear hb); (try clear hb2); (try clear hk); (try clear hi)) | ((with_reducible refine gate_builtin (b := .append) (xs := #[.tmp 19, .tmp 21]) rfl ?_); at_builtin; refine Kd.R_append (Kd.int .i64) (w0 := w) w.heap.size rfl (.tmp 19) (.tmp 21) 55 3 (.int .i64 0) 8 rfl Try.underlying55 info3 rfl (by decide) (by omega) u5 x5_1 x11_1 [.int .i64 x11_1] (fun _ => True) (fun _ => False) rfl rfl ?aP (fun _ hk => hk.elim) ?aF ?aO ?aB ?aS ?aL ?_; (case aP => exact rfl); (case aB => exact (sB HB.out)); (case aF => exact (fun _ _ => trivial)); (case aO => exact (rB HO_5.out)); (case aS => exact (below_size (sB HB.out))); (case aL => have := LMc11.out; omega); intro v685 w17 ho hb hg hat; rw [← Ny684.out] at ho; have n0_ := am (blk_grown (g := gb677) (o := .cells #[.int .i64 a1_0, .int .i64 a1_1, .int .i64 a1_2] 28 (0, 0)) (bB BK677.out) hg (Kd.R_ne HO_5.out BK677.out (by decide))); have n1_ := am (blk_grown (g := gb682) (o := .cells #[.int .i64 ((rd_T37 l0 x11_1).f0), .int .i64 ((rd_T37 l0 x11_1).f1), .int .i64 ((rd_T37 l0 x11_1).f2.f0), .int .i64 ((rd_T37 l0 x11_1).f2.f1), .int .i64 ((rd_T37 l0 x11_1).f3), .int .i64 ((rd_T37 l0 x11_1).f4), .int .i64 ((rd_T37 l0 x11_1).f5.f0), .int .i64 ((rd_T37 l0 x11_1).f5.f1)] 37 (0, 0)) (bB BK682.out) hg (Kd.R_ne HO_5.out BK682.out (by decide))); have n2_ := am (hb); have n3_ := am (ho); clear BK677; clear BK682; clear HB; clear HO_5; have BK677 := n0_; have BK682 := n1_; have HB := n2_; have HO686 := n3_; clear n0_ n1_ n2_ n3_; clear ho hb hg hat))
        go_roundg k1
        case measure => have := HK1.out; omega
        case rel => exact ⟨(y684), (wrap64 (x11_1 + 1)), (by first | rfl | (simp; done) | (simp [*]; done)), H', ⟨by have := HK1.out; omega⟩, ⟨by (with_reducible repeat (first | apply Kd.R_alloc | apply Kd.R_drewN | apply Kd.R_drew)); exact HO686.out⟩, ⟨bB BK677.out⟩, ⟨sB HB.out⟩⟩
       ·rw [if_neg c11] at H
        exact absurd H (by simp)
      ·replace c10 := Bool.eq_false_iff.mpr c10
       subst c10
       have H1 : (impl_AppliesTo.l0 k1 x5_1 l0 (l0.length : Int) (wrap64 (x11_1 + 1)) a1_0 a1_1 a1_2) = some r := by rw [if_neg (show ¬ (false = true) by decide)] at H; exact H
       clear H
       have H := H1
       clear H1
       have H' := Aside0.mk H
       clear H
       have p681 : 0 ≤ (x11_1 : Int) := of_decide_eq_true (by first | (with_reducible assumption) | assumption)
       have q681 : x11_1 < (l0.length : Int) := of_decide_eq_true (by first | (with_reducible assumption) | assumption)
       obtain ⟨ad681, e681, hx681_0, hx681_1, hx681_2, hx681_3, hx681_4, hx681_5, hx681_6, hx681_7⟩ := at_T37 HR0.out x11_1 p681 q681
       cases e681
       replace hx681_0 := hc_ HB hx681_0
       replace hx681_1 := hc_ HB hx681_1
       replace hx681_2 := hc_ HB hx681_2
       replace hx681_3 := hc_ HB hx681_3
       replace hx681_4 := hc_ HB hx681_4
       replace hx681_5 := hc_ HB hx681_5
       replace hx681_6 := hc_ HB hx681_6
       replace hx681_7 := hc_ HB hx681_7
       replace p681 := eq_true p681
       replace q681 := eq_true q681
       go_wp2_with (first | ((with_reducible refine gate_dst (N := 7) rfl ?_); refine box_event ?hg (N := 7) ?hd (cs := #[.int .i64 0, .int .i64 0, .int .i64 0, .int .i64 0, .int .i64 0, .int .i64 0, .int .i64 0, .int .i64 0]) (t := 37) ?hr ?_; (case hd => rfl); (case hg => rfl); (case hr => first | (go_simp; done) | (go_simp; rfl)); intro gb682 hg w18 hbox hb; have n0_ := am (Kd.R_below (rB HO_5.out) hb); have n1_ := am (blk_below (bB BK677.out) hb); have q_ := hbx_ (sB HB.out) hg hb; have n2_ := q_.1; have n3_ := am (hbox); have n4_ := q_.2; have n5_ := n4_; have n6_ := am ((by rw [hg]; exact Nat.ne_of_lt (blk_lt (g := gb677) (o := .cells #[.int .i64 a1_0, .int .i64 a1_1, .int .i64 a1_2] 28 (0, 0)) (bB BK677.out)) : gb677 ≠ gb682)); have n7_ := am ((by rw [hg]; exact Nat.ne_of_gt (blk_lt (g := gb677) (o := .cells #[.int .i64 a1_0, .int .i64 a1_1, .int .i64 a1_2] 28 (0, 0)) (bB BK677.out)) : gb682 ≠ gb677)); clear HO_5; clear BK677; clear HB; have HO_5 := n0_; have BK677 := n1_; have HB := n2_; have BK682 := n3_; have GW682 := n4_; have GE682 := n5_; have NB677_682 := n6_; have NB682_677 := n7_; clear n0_ n1_ n2_ n3_ n4_ n5_ n6_ n7_; clear hb hbox hg; have hnb19 := NB682_677.out; have hnc19 := NB677_682.out; obtain ⟨hcz20_0, hcz20_1, hcz20_2, hcz20_3, hcz20_4, hcz20_5, hcz20_6, hcz20_7, hfz20_0, hfz20_1, hfz20_2, hfz20_3, hfz20_4, hfz20_5, hfz20_6, hfz20_7⟩ := blk8 BK682.out; obtain ⟨hcz21_0, hcz21_1, hcz21_2, hfz21_0, hfz21_1, hfz21_2⟩ := blk3 BK677.out) | ((with_reducible refine gate_callee (f := 13) rfl ?_); refine goesL_ (some 18) rfl rfl Try.func13 (by kernel_rfl) rfl #[.agg #[.int .i64 ((rd_T37 l0 x11_1).f0), .int .i64 ((rd_T37 l0 x11_1).f1), .int .i64 ((rd_T37 l0 x11_1).f2.f0), .int .i64 ((rd_T37 l0 x11_1).f2.f1), .int .i64 ((rd_T37 l0 x11_1).f3), .int .i64 ((rd_T37 l0 x11_1).f4), .int .i64 ((rd_T37 l0 x11_1).f5.f0), .int .i64 ((rd_T37 l0 x11_1).f5.f1)], .agg #[.int .i64 a1_0, .int .i64 a1_1, .int .i64 a1_2]] rfl (by (try simp only [List.map_toArray, List.map_cons, List.map_nil]); first | done | rfl | (simp only [List.length_drop, List.length_take]; rfl)) ?_; (with_reducible refine (impl_Applies.calls k1 ((rd_T37 l0 x11_1).f0) ((rd_T37 l0 x11_1).f1) ((rd_T37 l0 x11_1).f2.f0) ((rd_T37 l0 x11_1).f2.f1) ((rd_T37 l0 x11_1).f3) ((rd_T37 l0 x11_1).f4) ((rd_T37 l0 x11_1).f5.f0) ((rd_T37 l0 x11_1).f5.f1) a1_0 a1_1 a1_2 false _ A9.out).mono ?_); rintro e w22 ⟨rfl, hb⟩; refine ⟨_, rfl, ?_⟩; replace HO_5 := am (Kd.R_below (by (with_reducible repeat (first | apply Kd.R_alloc | apply Kd.R_drewN | apply Kd.R_drew)); exact (Kd.R_mono (Kd.R_far (p := ⟨gb682, 7, none⟩) (Kd.R_far (p := ⟨gb682, 6, none⟩) (Kd.R_far (p := ⟨gb682, 5, none⟩) (Kd.R_far (p := ⟨gb682, 4, none⟩) (Kd.R_far (p := ⟨gb682, 3, none⟩) (Kd.R_far (p := ⟨gb682, 2, none⟩) (Kd.R_far (p := ⟨gb682, 1, none⟩) (Kd.R_far (p := ⟨gb682, 0, none⟩) (Kd.R_types HO_5.out BK682.out (by decide)) (fun _ hk => hk.2) (.int .i64 ((rd_T37 l0 x11_1).f0))) (fun _ hk => hk.2) (.int .i64 ((rd_T37 l0 x11_1).f1))) (fun _ hk => hk.2) (.int .i64 ((rd_T37 l0 x11_1).f2.f0))) (fun _ hk => hk.2) (.int .i64 ((rd_T37 l0 x11_1).f2.f1))) (fun _ hk => hk.2) (.int .i64 ((rd_T37 l0 x11_1).f3))) (fun _ hk => hk.2) (.int .i64 ((rd_T37 l0 x11_1).f4))) (fun _ hk => hk.2) (.int .i64 ((rd_T37 l0 x11_1).f5.f0))) (fun _ hk => hk.2) (.int .i64 ((rd_T37 l0 x11_1).f5.f1))) (fun _ h_ => h_.1))) hb); replace BK677 := am (blk_below (g := gb677) (o := .cells #[.int .i64 a1_0, .int .i64 a1_1, .int .i64 a1_2] 28 (0, 0)) (by refine bB ?_; refine blk_far ?_ NB677_682.out _; refine bB ?_; refine blk_far ?_ NB677_682.out _; refine bB ?_; refine blk_far ?_ NB677_682.out _; refine bB ?_; refine blk_far ?_ NB677_682.out _; refine bB ?_; refine blk_far ?_ NB677_682.out _; refine bB ?_; refine blk_far ?_ NB677_682.out _; refine bB ?_; refine blk_far ?_ NB677_682.out _; refine bB ?_; refine blk_far ?_ NB677_682.out _; refine bB ?_; exact BK677.out) hb); replace BK682 := am (blk_below (g := gb682) (o := .cells #[.int .i64 ((rd_T37 l0 x11_1).f0), .int .i64 ((rd_T37 l0 x11_1).f1), .int .i64 ((rd_T37 l0 x11_1).f2.f0), .int .i64 ((rd_T37 l0 x11_1).f2.f1), .int .i64 ((rd_T37 l0 x11_1).f3), .int .i64 ((rd_T37 l0 x11_1).f4), .int .i64 ((rd_T37 l0 x11_1).f5.f0), .int .i64 ((rd_T37 l0 x11_1).f5.f1)] 37 (0, 0)) (by refine bB ?_; refine blk_put (cs := #[.int .i64 ((rd_T37 l0 x11_1).f0), .int .i64 ((rd_T37 l0 x11_1).f1), .int .i64 ((rd_T37 l0 x11_1).f2.f0), .int .i64 ((rd_T37 l0 x11_1).f2.f1), .int .i64 ((rd_T37 l0 x11_1).f3), .int .i64 ((rd_T37 l0 x11_1).f4), .int .i64 ((rd_T37 l0 x11_1).f5.f0), .int .i64 0]) ?_ 7 _ rfl; refine bB ?_; refine blk_put (cs := #[.int .i64 ((rd_T37 l0 x11_1).f0), .int .i64 ((rd_T37 l0 x11_1).f1), .int .i64 ((rd_T37 l0 x11_1).f2.f0), .int .i64 ((rd_T37 l0 x11_1).f2.f1), .int .i64 ((rd_T37 l0 x11_1).f3), .int .i64 ((rd_T37 l0 x11_1).f4), .int .i64 0, .int .i64 0]) ?_ 6 _ rfl; refine bB ?_; refine blk_put (cs := #[.int .i64 ((rd_T37 l0 x11_1).f0), .int .i64 ((rd_T37 l0 x11_1).f1), .int .i64 ((rd_T37 l0 x11_1).f2.f0), .int .i64 ((rd_T37 l0 x11_1).f2.f1), .int .i64 ((rd_T37 l0 x11_1).f3), .int .i64 0, .int .i64 0, .int .i64 0]) ?_ 5 _ rfl; refine bB ?_; refine blk_put (cs := #[.int .i64 ((rd_T37 l0 x11_1).f0), .int .i64 ((rd_T37 l0 x11_1).f1), .int .i64 ((rd_T37 l0 x11_1).f2.f0), .int .i64 ((rd_T37 l0 x11_1).f2.f1), .int .i64 0, .int .i64 0, .int .i64 0, .int .i64 0]) ?_ 4 _ rfl; refine bB ?_; refine blk_put (cs := #[.int .i64 ((rd_T37 l0 x11_1).f0), .int .i64 ((rd_T37 l0 x11_1).f1), .int .i64 ((rd_T37 l0 x11_1).f2.f0), .int .i64 0, .int .i64 0, .int .i64 0, .int .i64 0, .int .i64 0]) ?_ 3 _ rfl; refine bB ?_; refine blk_put (cs := #[.int .i64 ((rd_T37 l0 x11_1).f0), .int .i64 ((rd_T37 l0 x11_1).f1), .int .i64 0, .int .i64 0, .int .i64 0, .int .i64 0, .int .i64 0, .int .i64 0]) ?_ 2 _ rfl; refine bB ?_; refine blk_put (cs := #[.int .i64 ((rd_T37 l0 x11_1).f0), .int .i64 0, .int .i64 0, .int .i64 0, .int .i64 0, .int .i64 0, .int .i64 0, .int .i64 0]) ?_ 1 _ rfl; refine bB ?_; refine blk_put (cs := #[.int .i64 0, .int .i64 0, .int .i64 0, .int .i64 0, .int .i64 0, .int .i64 0, .int .i64 0, .int .i64 0]) ?_ 0 _ rfl; refine bB ?_; exact BK682.out) hb); replace HB := am (below_step (sB HB.out) hb); (try clear hb); (try clear hb2); (try clear hk); (try clear hi)))
       go_roundg k1
       case measure => have := HK1.out; omega
       case rel => exact ⟨(x5_1), (wrap64 (x11_1 + 1)), (by first | rfl | (simp; done) | (simp [*]; done)), H', ⟨by have := HK1.out; omega⟩, ⟨by (with_reducible repeat (first | apply Kd.R_alloc | apply Kd.R_drewN | apply Kd.R_drew)); exact HO_5.out⟩, ⟨bB BK677.out⟩, ⟨sB HB.out⟩⟩
     ·rw [if_neg c8] at H
      exact absurd H (by simp)
    ·rw [if_neg c7] at H
     exact absurd H (by simp)
   ·rw [if_neg c6] at H
    have c6b0 : decide (x11_1 < (l0.length : Int)) = false := decide_eq_false c6
    clear c6
    obtain rfl := Option.some.inj H
    go_wp2
    go_ret
    exact ⟨_, by first | rfl | (simp [errW_none, errW_some] <;> rfl) | (simp [*, errW_none, errW_some] <;> rfl), by (with_reducible repeat (first | apply Kd.R_alloc | apply Kd.R_drewN | apply Kd.R_drew)); exact HO_5.out, sB HB.out⟩

end Go.Proofs.Ytepndcpncndjdaa.QS
