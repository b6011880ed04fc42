/- Go functions as Lean functions, each with its walk; printed by a program of this session (a scratch copy of print.py that follows nested field addresses and tells a law for the answer true). -/
import Derived.Test.YtepndcpncndjdaaQSx0
import Derived.Test.YtepndcpncndjdaaQSx17
namespace Go.Proofs.Ytepndcpncndjdaa.QS
open Go.RowKit Go.Proofs.YtepndcpncndjdaaW.PrintWords Go.Proofs.YtepndcpncndjdaaW.PrintLast Go.Proofs.YtepndcpncndjdaaW.PrintMore Go.Proofs.Ytepndcpncndjdaa.Short
attribute [local go_sem] max2_int min2_int max_two min_two max_three min_three max_four min_four   -- for this text's walks alone
set_option linter.unusedVariables false
set_option linter.unusedSimpArgs false

/-! ### impl_CompileRules: function 9 -/
mutual
def impl_CompileRules.l0 : Nat → List (S37) → Int → Int → List (S37) → List (List (S37)) → Option ((List (S37)) × (List (List (S37))))
 | 0, _, _, _, _, _ => none
 | k + 1, x0, x12, x13, x300000, x300001 => if x13 < x12 then (if 0 ≤ x13 then (if x13 < (x300001.length : Int) then (impl_CompileRules.l0 k x0 x12 (wrap64 (x13 + 1)) x300000 (x300001.set (x13 : Int).toNat (([] : List (S37))))) else (none)) else (none)) else ((impl_SortRules.f k x0).bind fun t304 => (impl_CompileRules.l1 k t304 (t304.length : Int) 0 x300000 x300001))
def impl_CompileRules.l1 : Nat → List (S37) → Int → Int → List (S37) → List (List (S37)) → Option ((List (S37)) × (List (List (S37))))
 | 0, _, _, _, _, _ => none
 | k + 1, x23, x24, x25, x300000, x300001 => if x25 < x24 then (if 0 ≤ x25 then (if x25 < (x23.length : Int) then (if ((rd_T37 x23 x25).f2.f0) = 0 then (if x300000.length < 2199023255552 then (impl_CompileRules.l1 k x23 x24 (wrap64 (x25 + 1)) (x300000 ++ [(⟨(rd_T37 x23 x25).f0, (rd_T37 x23 x25).f1, (⟨(rd_T37 x23 x25).f2.f0, (rd_T37 x23 x25).f2.f1⟩ : S35), (rd_T37 x23 x25).f3, (rd_T37 x23 x25).f4, (⟨(rd_T37 x23 x25).f5.f0, (rd_T37 x23 x25).f5.f1⟩ : S26)⟩ : S37)]) x300001) else (none)) else (if 0 ≤ (wrap64 (((rd_T37 x23 x25).f2.f0) - 1)) then (if (wrap64 (((rd_T37 x23 x25).f2.f0) - 1)) < (x300001.length : Int) then (if (rd_L7 x300001 (wrap64 (((rd_T37 x23 x25).f2.f0) - 1))).length < 2199023255552 then (impl_CompileRules.l1 k x23 x24 (wrap64 (x25 + 1)) x300000 (x300001.set ((wrap64 (((rd_T37 x23 x25).f2.f0) - 1)) : Int).toNat ((rd_L7 x300001 (wrap64 (((rd_T37 x23 x25).f2.f0) - 1))) ++ [(⟨(rd_T37 x23 x25).f0, (rd_T37 x23 x25).f1, (⟨(rd_T37 x23 x25).f2.f0, (rd_T37 x23 x25).f2.f1⟩ : S35), (rd_T37 x23 x25).f3, (rd_T37 x23 x25).f4, (⟨(rd_T37 x23 x25).f5.f0, (rd_T37 x23 x25).f5.f1⟩ : S26)⟩ : S37)]))) else (none)) else (none)) else (none))) else (none)) else (none)) else (some (x300000, x300001))
end
def impl_CompileRules.f (k : Nat) (l0 : List (S37)) : Option ((List (S37)) × (List (List (S37)))) := if 9 ≤ 11728124029610 then ((some (List.replicate 9 [] : List (List (S37)))).bind fun y296 => (impl_CompileRules.l0 k l0 (y296.length : Int) 0 (([] : List (S37))) y296)) else (none)
theorem impl_CompileRules.mono_l : ∀ k, (∀ y0 y1 y2 y3 y4, LeO (impl_CompileRules.l0 k y0 y1 y2 y3 y4) (impl_CompileRules.l0 (k + 1) y0 y1 y2 y3 y4)) ∧ (∀ y0 y1 y2 y3 y4, LeO (impl_CompileRules.l1 k y0 y1 y2 y3 y4) (impl_CompileRules.l1 (k + 1) y0 y1 y2 y3 y4))
 | 0 => ⟨fun _ _ _ _ _ r h => by simp [impl_CompileRules.l0] at h, fun _ _ _ _ _ r h => by simp [impl_CompileRules.l1] at h⟩
 | k + 1 => by
  obtain ⟨ih0, ih1⟩ := impl_CompileRules.mono_l k
  refine ⟨?_, ?_⟩
  ·intro y0 y1 y2 y3 y4
   unfold impl_CompileRules.l0
   repeat' first
   | (with_reducible exact ih0 _ _ _ _ _)
   | (with_reducible exact ih1 _ _ _ _ _)
   | (with_reducible exact impl_SortRules.mono _ _)
   | (with_reducible exact LeO.refl _)
   | (with_reducible exact LeO.none _)
   | (with_reducible refine LeO.ite ?_ ?_)
   | (with_reducible refine LeO.bind ?_ (fun _ => ?_))
   | exact ih0 _ _ _ _ _
   | exact ih1 _ _ _ _ _
   | exact impl_SortRules.mono _ _
   | exact LeO.none _
   | refine LeO.ite ?_ ?_
   | refine LeO.bind ?_ (fun _ => ?_)
  ·intro y0 y1 y2 y3 y4
   unfold impl_CompileRules.l1
   repeat' first
   | (with_reducible exact ih0 _ _ _ _ _)
   | (with_reducible exact ih1 _ _ _ _ _)
   | (with_reducible exact impl_SortRules.mono _ _)
   | (with_reducible exact LeO.refl _)
   | (with_reducible exact LeO.none _)
   | (with_reducible refine LeO.ite ?_ ?_)
   | (with_reducible refine LeO.bind ?_ (fun _ => ?_))
   | exact ih0 _ _ _ _ _
   | exact ih1 _ _ _ _ _
   | exact impl_SortRules.mono _ _
   | exact LeO.none _
   | refine LeO.ite ?_ ?_
   | refine LeO.bind ?_ (fun _ => ?_)
theorem impl_CompileRules.mono : ∀ a0 k, LeO (impl_CompileRules.f k a0) (impl_CompileRules.f (k + 1) a0) := by
 intro a0 k
 obtain ⟨ih0, ih1⟩ := impl_CompileRules.mono_l k
 unfold impl_CompileRules.f
 repeat' first
   | (with_reducible exact ih0 _ _ _ _ _)
   | (with_reducible exact ih1 _ _ _ _ _)
   | (with_reducible exact impl_SortRules.mono _ _)
   | (with_reducible exact LeO.refl _)
   | (with_reducible exact LeO.none _)
   | (with_reducible refine LeO.ite ?_ ?_)
   | (with_reducible refine LeO.bind ?_ (fun _ => ?_))
   | exact ih0 _ _ _ _ _
   | exact ih1 _ _ _ _ _
   | exact impl_SortRules.mono _ _
   | exact LeO.none _
   | refine LeO.ite ?_ ?_
   | refine LeO.bind ?_ (fun _ => ?_)
def impl_CompileRules.T12 : Bool × List (List Nat × List Nat) := (true, [([], []), ([0], [0]), ([], []), ([2], [2]), ([3], [3]), ([4], [4]), ([], []), ([6], [6]), ([], []), ([8], [8]), ([9], [9]), ([10], [10]), ([7, 11], [7, 11]), ([12], [12]), ([], []), ([14], [14]), ([13, 15], [13, 15]), ([1, 5, 0, 1, 2, 3, 4, 5, 6, 7, 8, 9, 10, 11, 12, 13, 14, 15, 16], [1, 5]), ([17, 16, 16, 0, 1, 2, 3, 4, 5, 6, 7, 8, 9, 10, 11, 12, 13, 14, 15, 16], [16, 17])])
def impl_CompileRules.B12 : List Nat := [0, 1, 0, 4, 12, 28, 0, 64, 0, 256, 768, 1792, 4032, 8128, 0, 16384, 65472, 131071, 262143]
theorem impl_CompileRules.tab12 : rtab .any (opsOf Try.f9 12) = impl_CompileRules.T12 := by kernel_rfl
theorem impl_CompileRules.bits12 : waitsOk impl_CompileRules.T12.2 impl_CompileRules.B12 = true := by kernel_rfl
set_option maxHeartbeats 8000000 in
set_option maxRecDepth 100000 in
theorem impl_CompileRules.calls (k : Nat) (A0 : Option Addr) (c0 : Nat) (l0 : List (S37)) (r1 : List (S37)) (r2 : List (List (S37))) (w : World) (hr0 : Kd.C k37 w A0 l0.length l0) (hc0 : l0.length ≤ c0) (h : impl_CompileRules.f k l0 = some (r1, r2)) :
  Calls Try.prog 9 #[.slice A0 l0.length c0] w fun e w' => ∃ v0_ v1_ : Value, e = .returned (.agg #[v0_, v1_]) ∧ Kd.R k37 37 w' w.heap.size (fun _ => True) v0_ r1 ∧ Kd.S (Kd.slice 37 k37) 24 w' w.heap.size (fun k_ => some k_ ≠ (v0_ : Value).ownBlock) v1_ r2 ∧ Below w.heap.size w w' := by
 have hu33 := Try.underlying33
 have hu37 := Try.underlying37
 have HR0 := Aside0.mk hr0
 have HC0 := Aside0.mk hc0
 clear hr0 hc0
 have HB := am (Below.refl w.heap.size w)
 have H : (if 9 ≤ 11728124029610 then ((some (List.replicate 9 [] : List (List (S37)))).bind fun y296 => (impl_CompileRules.l0 k l0 (y296.length : Int) 0 (([] : List (S37))) y296)) else (none)) = some (r1, r2) := h
 clear h
 obtain ⟨y293, hy293⟩ : ∃ y_ : List (S37), y_ = (([] : List (S37))) := ⟨_, rfl⟩
 replace H : (if 9 ≤ 11728124029610 then ((some (List.replicate 9 [] : List (List (S37)))).bind fun y296 => (impl_CompileRules.l0 k l0 (y296.length : Int) 0 y293 y296)) else (none)) = some (r1, r2) := by first | (rw [hy293]; with_reducible exact H) | (have H2_ := (Option.bind_some _ _).symm.trans H; rw [hy293]; with_reducible exact H2_) | (have H2_ := (Option.bind_some _ _).symm.trans H; with_reducible exact H2_) | with_reducible exact H | (rw [hy293]; exact H) | exact H
 have Ny293 := Aside0.mk hy293
 clear hy293
 by_cases c2 : 9 ≤ 11728124029610
 ·rw [if_pos c2] at H
  have c2b0 := eq_true c2
  have c2b1 : decide (9 ≤ 11728124029610) = true := decide_eq_true c2
  clear c2
  obtain ⟨y296, hy296⟩ : ∃ y_ : List (List (S37)), y_ = (List.replicate 9 []) := ⟨_, rfl⟩
  replace H : (impl_CompileRules.l0 k l0 (y296.length : Int) 0 y293 y296) = some (r1, r2) := by first | (rw [hy296]; with_reducible exact H) | (have H2_ := (Option.bind_some _ _).symm.trans H; rw [hy296]; with_reducible exact H2_) | (have H2_ := (Option.bind_some _ _).symm.trans H; with_reducible exact H2_) | with_reducible exact H | (rw [hy296]; exact H) | exact H
  have Ny296 := Aside0.mk hy296
  clear hy296
  have H' := Aside0.mk H
  clear H
  go_enter Try.func9, Try.ntmps9
  go_wp2_with (first | ((with_reducible refine gate_dst (N := 2) rfl ?_); refine box_event ?hg (N := 2) ?hd (cs := #[.slice none 0 0, .slice none 0 0]) (t := 33) ?hr ?_; (case hd => rfl); (case hg => rfl); (case hr => first | (go_simp; done) | (go_simp; rfl)); intro gb292 hg w3 hbox hb; have q_ := hbx_ (sB HB.out) hg hb; have n0_ := q_.1; have n1_ := am (hbox); have n2_ := q_.2; have n3_ := n2_; clear HB; have HB := n0_; have BK292 := n1_; have GW292 := n2_; have GE292 := n3_; clear n0_ n1_ n2_ n3_ hb hbox hg) | ((with_reducible refine gate_dst (N := 7) rfl ?_); refine Kd.R_lit k37 _ 37 ?hg (N := 7) ?hd (xs := ([] : List (S37))) (inner := []) (ok := fun _ => True) (okp := fun _ => True) ?hr ?hp (fun _ hk => hk) trivial (Below.refl _ _) (Nat.le_refl _) (by simp) ?_; (case hd => rfl); (case hg => rfl); (case hr => first | (go_simp; done) | (go_simp; rfl)); (case hp => exact (Reps.none _ _)); intro v294 w4 ho5 hb hg_ hnew_; clear hg_ hnew_; (first | rw [← Ny293.out] at ho5 | (simp only [Int.reduceToNat] at ho5; rw [← Ny293.out] at ho5)); have n0_ := am (Kd.R_lower ho5 (below_size (sB HB.out))); have n1_ := am (blk_below (bB BK292.out) hb); have n2_ := am (below_step (sB HB.out) hb); clear BK292; clear HB; have HO295 := n0_; have BK292 := n1_; have HB := n2_; clear n0_ n1_ n2_; clear hb ho5) | ((with_reducible refine gate_dst (N := 8) rfl ?_); refine Kd.S_make (Kd.slice 37 k37) _ 24 rfl (N := 8) rfl 31 _ _ rfl 9 rfl rfl Try.underlying31 (.slice none 0 0) 24 info24 rfl (by decide) (by omega) [] (ok := fun _ => True) (okp := fun _ => True) ⟨_, rfl, Kd.R_nil _ _ _ _ _⟩ (fun _ hk => hk) trivial (by omega) (by omega) (Below.refl _ _) (Nat.le_refl _) ?_; intro v297 w6 ho7 hb hg_ hnew_; clear hg_ hnew_; (first | rw [← Ny296.out] at ho7 | (simp only [Int.reduceToNat] at ho7; rw [← Ny296.out] at ho7)); have n0_ := am (Kd.R_below (rB HO295.out) hb); have n1_ := am (Kd.S_lower (Kd.S_new' ho7 (Kd.R_lt (rB HO295.out))) (below_size (sB HB.out))); have n2_ := am (blk_below (bB BK292.out) hb); have n3_ := am (below_step (sB HB.out) hb); clear HO295; clear BK292; clear HB; have HO295 := n0_; have HO298 := n1_; have BK292 := n2_; have HB := n3_; clear n0_ n1_ n2_ n3_; clear hb ho7; obtain ⟨Ao8, co8, eo8⟩ := Kd.S_slice HO298.out; subst eo8; obtain ⟨Ao9, co9, eo9⟩ := Kd.R_slice HO295.out; subst eo9) | ((with_reducible refine gate_dst (N := 3) rfl ?_); refine box_event ?hg (N := 3) ?hd (cs := #[.slice none 0 0, .slice none 0 0]) (t := 33) ?hr ?_; (case hd => rfl); (case hg => rfl); (case hr => first | (go_simp; done) | (go_simp; rfl)); intro gb299 hg w10 hbox hb; have n0_ := am (Kd.R_below (rB HO295.out) hb); have n1_ := am (Kd.S_below (by (with_reducible repeat (first | apply Kd.S_alloc | apply Kd.S_drewN | apply Kd.S_drew)); exact HO298.out) hb); have n2_ := am (blk_below (bB BK292.out) hb); have q_ := hbx_ (sB HB.out) hg hb; have n3_ := q_.1; have n4_ := am (hbox); have n5_ := q_.2; have n6_ := n5_; have n7_ := am ((by rw [hg]; exact Nat.ne_of_lt (blk_lt (g := gb292) (o := .cells #[.slice none 0 0, .slice none 0 0] 33 (0, 0)) (bB BK292.out)) : gb292 ≠ gb299)); have n8_ := am ((by rw [hg]; exact Nat.ne_of_gt (blk_lt (g := gb292) (o := .cells #[.slice none 0 0, .slice none 0 0] 33 (0, 0)) (bB BK292.out)) : gb299 ≠ gb292)); clear HO295; clear HO298; clear BK292; clear HB; have HO295 := n0_; have HO298 := n1_; have BK292 := n2_; have HB := n3_; have BK299 := n4_; have GW299 := n5_; have GE299 := n6_; have NB292_299 := n7_; have NB299_292 := n8_; clear n0_ n1_ n2_ n3_ n4_ n5_ n6_ n7_ n8_; clear hb hbox hg; have hnb11 := NB299_292.out; have hnc11 := NB292_299.out; obtain ⟨hcz12_0, hcz12_1, hfz12_0, hfz12_1⟩ := blk2 BK299.out))
  go_loopg [13] k (fun kq v13 w' => ∃ (x13_1 : Int) (x300001_1 : List (List (S37))) (u300001 : Value), v13 = .int .i64 x13_1 ∧ Aside0 (impl_CompileRules.l0 kq l0 (y296.length : Int) x13_1 y293 x300001_1 = some (r1, r2)) ∧ Aside0 (kq ≤ k) ∧ Aside0 (Kd.R k37 37 w' w.heap.size (fun _ => True) (.slice Ao9 y293.length co9) y293) ∧ Aside0 (Kd.S (Kd.slice 37 k37) 24 w' w.heap.size (fun k_ => some k_ ≠ ((.slice Ao9 y293.length co9) : Value).ownBlock) u300001 x300001_1) ∧ Aside0 (w'.heap[gb292]? = some (.cells #[(.slice none 0 0), (.slice none 0 0)] 33 (0, 0))) ∧ Aside0 (w'.heap[gb299]? = some (.cells #[(.slice Ao9 y293.length co9), u300001] 33 (0, 0))) ∧ Aside0 (Below w.heap.size w w'))
  case atStart => exact ⟨(0), (y296), (.slice Ao8 y296.length co8), (by first | rfl | (simp; done) | (simp [*]; done)), H', ⟨Nat.le_refl _⟩, ⟨by (with_reducible repeat (first | apply Kd.R_alloc | apply Kd.R_drewN | apply Kd.R_drew)); exact Kd.R_mono (Kd.R_far (p := ⟨gb299, 1, none⟩) (Kd.R_far (p := ⟨gb299, 0, none⟩) (Kd.R_types HO295.out BK299.out (by decide)) (fun _ hk => hk.2) (.slice Ao9 y293.length co9)) (fun _ hk => hk.2) (.slice Ao8 y296.length co8)) (fun _ hk => trivial)⟩, ⟨by (with_reducible repeat (first | apply Kd.S_alloc | apply Kd.S_drewN | apply Kd.S_drew)); exact Kd.S_mono (Kd.S_far (p := ⟨gb299, 1, none⟩) (Kd.S_far (p := ⟨gb299, 0, none⟩) (Kd.S_types HO298.out BK299.out (by decide)) (fun _ hk => hk.2) (.slice Ao9 y293.length co9)) (fun _ hk => hk.2) (.slice Ao8 y296.length co8)) (fun _ hk => hk.1.2)⟩, ⟨by refine bB ?_; refine blk_far ?_ NB292_299.out _; refine bB ?_; refine blk_far ?_ NB292_299.out _; refine bB ?_; exact BK292.out⟩, ⟨by refine bB ?_; refine blk_put (cs := #[.slice Ao9 y293.length co9, .slice none 0 0]) ?_ 1 _ rfl; refine bB ?_; refine blk_put (cs := #[.slice none 0 0, .slice none 0 0]) ?_ 0 _ rfl; refine bB ?_; exact BK299.out⟩, ⟨sB HB.out⟩⟩
  case round =>
   clear H'
   try clear c1
   try clear c2
   try clear c2b0
   try clear c2b1
   try clear p2
   try clear c9
   try clear c11
   try clear hcz12_0 hcz12_1
   try clear hfz12_0 hfz12_1
   obtain ⟨x13_1, x300001_1, u300001, rfl, HA, HK1, HO_300000, HO_300001, BK292, BK299, HB⟩ := hrel
   cases gk with
   | zero => exact absurd HA.out (by simp [impl_CompileRules.l0])
   | succ k1 =>
    have H := HA.out
    clear HA
    simp only [impl_CompileRules.l0] at H
    by_cases c13 : x13_1 < (y296.length : Int)
    ·rw [if_pos c13] at H
     have c13b0 : decide (x13_1 < (y296.length : Int)) = true := decide_eq_true c13
     clear c13
     obtain ⟨y300, hy300⟩ : ∃ y_ : List (S37), y_ = (([] : List (S37))) := ⟨_, rfl⟩
     replace H : (if 0 ≤ x13_1 then (if x13_1 < (x300001_1.length : Int) then (impl_CompileRules.l0 k1 l0 (y296.length : Int) (wrap64 (x13_1 + 1)) y293 (x300001_1.set (x13_1 : Int).toNat y300)) else (none)) else (none)) = some (r1, r2) := by first | (rw [hy300]; with_reducible exact H) | (have H2_ := (Option.bind_some _ _).symm.trans H; rw [hy300]; with_reducible exact H2_) | (have H2_ := (Option.bind_some _ _).symm.trans H; with_reducible exact H2_) | with_reducible exact H | (rw [hy300]; exact H) | exact H
     have Ny300 := Aside0.mk hy300
     clear hy300
     by_cases c14 : 0 ≤ x13_1
     ·rw [if_pos c14] at H
      have c14b0 : decide (0 ≤ x13_1) = true := decide_eq_true c14
      clear c14
      by_cases c15 : x13_1 < (x300001_1.length : Int)
      ·rw [if_pos c15] at H
       have c15b0 : decide (x13_1 < (x300001_1.length : Int)) = true := decide_eq_true c15
       clear c15
       obtain ⟨y303, hy303⟩ : ∃ y_ : List (List (S37)), y_ = (x300001_1.set (x13_1 : Int).toNat y300) := ⟨_, rfl⟩
       replace H : (impl_CompileRules.l0 k1 l0 (y296.length : Int) (wrap64 (x13_1 + 1)) y293 y303) = some (r1, r2) := by first | (rw [hy303]; with_reducible exact H) | (have H2_ := (Option.bind_some _ _).symm.trans H; rw [hy303]; with_reducible exact H2_) | (have H2_ := (Option.bind_some _ _).symm.trans H; with_reducible exact H2_) | with_reducible exact H | (rw [hy303]; exact H) | exact H
       have Ny303 := Aside0.mk hy303
       clear hy303
       have H' := Aside0.mk H
       clear H
       have hnb17 := NB299_292.out
       have hnc17 := NB292_299.out
       have hcz18_0 : wr.cell? ⟨gb299, 0, none⟩ = some (.slice Ao9 y293.length co9) := (blk_cell BK299.out 0).trans rfl
       have hcz18_1 : wr.cell? ⟨gb299, 1, none⟩ = some (u300001) := (blk_cell BK299.out 1).trans rfl
       have hfz18_0 := blk_frozen BK299.out 0
       have hfz18_1 := blk_frozen BK299.out 1
       go_wp2_with (first | ((with_reducible refine gate_dst (N := 19) rfl ?_); refine Kd.R_lit k37 _ 37 ?hg (N := 19) ?hd (xs := ([] : List (S37))) (inner := []) (ok := fun _ => True) (okp := fun _ => True) ?hr ?hp (fun _ hk => hk) trivial (Below.refl _ _) (Nat.le_refl _) (by simp) ?_; (case hd => rfl); (case hg => rfl); (case hr => first | (go_simp; done) | (go_simp; rfl)); (case hp => exact (Reps.none _ _)); intro v301 w19 ho20 hb hg_ hnew_; clear hg_ hnew_; (first | rw [← Ny300.out] at ho20 | (simp only [Int.reduceToNat] at ho20; rw [← Ny300.out] at ho20)); have n0_ := am (Kd.R_elder' (rB HO_300000.out) (Kd.R_base ho20) hb); have n1_ := am (Kd.S_elder' (by (with_reducible repeat (first | apply Kd.S_alloc | apply Kd.S_drewN | apply Kd.S_drew)); exact HO_300001.out) (Kd.R_base ho20) hb); have n2_ := am (Kd.R_lower (Kd.R_new' ho20 (Kd.R_lt (rB HO_300000.out))) (below_size (sB HB.out))); have n3_ := am (blk_below (bB BK292.out) hb); have n4_ := am (blk_below (bB BK299.out) hb); have n5_ := am (below_step (sB HB.out) hb); clear HO_300000; clear HO_300001; clear BK292; clear BK299; clear HB; have HO_300000 := n0_; have HO_300001 := n1_; have HO302 := n2_; have BK292 := n3_; have BK299 := n4_; have HB := n5_; clear n0_ n1_ n2_ n3_ n4_ n5_; clear hb ho20; obtain ⟨Av_, cv_, ev_⟩ := Kd.R_slice HO302.out; subst ev_; have p16 : 0 ≤ (x13_1 : Int) := of_decide_eq_true (by first | (with_reducible assumption) | assumption); have q16 : (x13_1 : Int) < ((x300001_1.length : Int) : Int) := of_decide_eq_true (by first | (with_reducible assumption) | assumption); obtain ⟨go16, co16, eo16, gb16, gl16, cl16, HG16⟩ := Kd.S_form HO_300001.out (by omega); (first | cases eo16 | (injection eo16 with ea_ en_ ec_; (first | subst ea_ | (injection ea_ with ea_; subst ea_)); subst ec_; clear en_)); have GB16 := Aside0.mk gb16; have GG16 := Aside0.mk HG16; clear gb16 gl16 HG16; obtain ⟨_, ce16, hcl16, hM16, hcc16, hfr16, _, _⟩ := Kd.S_elem HO_300001.out [] (x13_1 : Int) p16 q16; obtain ⟨ve16_0, rfl, ge16_0⟩ := hM16; have hx16_0 := hcc16 0 _ rfl; have hf16_0 := hfr16 0; (try simp only [show ((Kd.slice 37 k37)).sz = 1 from rfl, Nat.mul_one, Nat.add_zero] at hx16_0); (try simp only [show ((Kd.slice 37 k37)).sz = 1 from rfl, Nat.mul_one, Nat.add_zero] at hf16_0); (try clear hcl16); (try clear hcc16); (try clear hfr16); (try clear hM16); replace p16 := eq_true p16; replace q16 := eq_true q16; have HX21 := am (show Kd.S (Kd.slice 37 k37) 24 w19 w.heap.size (fun k_ => ((fun k_ => some k_ ≠ (.slice Ao9 y293.length co9 : Value).ownBlock)) k_ ∧ ¬ ((fun k_ => some k_ = ((.slice Av_ y300.length cv_) : Value).ownBlock)) k_) (.slice (some ⟨go16, 0, none⟩) x300001_1.length co16) x300001_1 from (by (with_reducible repeat (first | apply Kd.S_alloc | apply Kd.S_drewN | apply Kd.S_drew)); exact Kd.S_mono HO_300001.out (fun k_ hk => ⟨hk.1, fun e_ => hk.2 e_⟩))); obtain ⟨oki21, ce21, hcl21, hM21, hcc21, hfr21, hoki21, hH21⟩ := Kd.S_elem HX21.out [] (x13_1 : Int) (of_decide_eq_true (by first | (with_reducible assumption) | assumption)) (by have h_ : (x13_1 : Int) < ((x300001_1.length : Int) : Int) := of_decide_eq_true (by first | (with_reducible assumption) | assumption); first | exact h_ | (have e_ := (Kd.S_reads' HO_300001.out).1; omega) | simpa using h_); obtain ⟨ve21_0, rfl, ge21_0⟩ := hM21; have HP21 := Kd.S_seg hH21 (of_decide_eq_true (by first | (with_reducible assumption) | assumption)) (by have h_ : (x13_1 : Int) < ((x300001_1.length : Int) : Int) := of_decide_eq_true (by first | (with_reducible assumption) | assumption); first | exact h_ | (have e_ := (Kd.S_reads' HO_300001.out).1; omega) | simpa using h_) (seg := [(.slice Av_ y300.length cv_)]) (j := 0) (show 1 ≤ 1 from by decide) (x' := y300) (Kd.M_row (Kd.R_mono (Kd.R_tight rfl (Kd.R_mono (ok' := fun k_ => ((fun k_ => some k_ ≠ (.slice Ao9 y293.length co9 : Value).ownBlock)) k_ ∧ k_ ≠ go16) (Kd.R_apart' (HO302.out) (Kd.S_typed HO_300001.out) (by decide)) (fun k_ hk => ⟨hk.1.2, fun e_ => (hk.2) (by rw [e_]; rfl)⟩))) (fun _ h_ => Or.inr (h_)))) (fun _ hk => hk) (fun k_ hk_ => ((Kd.R_mono (ok' := fun k_ => ((fun k_ => some k_ ≠ (.slice Ao9 y293.length co9 : Value).ownBlock)) k_ ∧ k_ ≠ go16) (Kd.R_apart' (HO302.out) (Kd.S_typed HO_300001.out) (by decide)) (fun k_ hk => ⟨hk.1.2, fun e_ => (hk.2) (by rw [e_]; rfl)⟩))).1 k_ hk_.symm); have hx21_0 := hcc21 0 _ rfl; (try simp only [show ((Kd.slice 37 k37)).sz = 1 from rfl, Nat.mul_one, Nat.add_zero] at hx21_0); have hf21_0 := hfr21 0; (try simp only [show ((Kd.slice 37 k37)).sz = 1 from rfl, Nat.mul_one, Nat.add_zero] at hf21_0); (try clear hcl21); (try clear hcc21); (try clear hfr21); (try clear hM21); (try clear hoki21); (try clear hH21); (try simp only [show ((Kd.slice 37 k37)).sz = 1 from rfl, Nat.mul_one, Nat.add_zero] at HP21)) | ((with_reducible refine gate_store (t := 24) (p := 20) rfl ?_); refine store_event (t := 24) (p := 20) (v := ?vo_w22) (w1 := (w19.setCell ⟨go16, (x13_1 : Int).toNat, none⟩ ((.slice Av_ y300.length cv_)))) ?hg ?ho ?hn ?hr ?_; (case ho => rfl); (case hg => rfl); (case hn => rfl); (case hr => first | (go_simp; done) | (go_simp; rfl)); intro w22 hw; have hg : w19.grownBy w22 (some go16) := (by rw [hw]; exact HP21.2); have hp_ : Kd.S (Kd.slice 37 k37) 24 w22 w.heap.size (fun k_ => some k_ ≠ (.slice Ao9 y293.length co9 : Value).ownBlock) (.slice (some ⟨go16, 0, none⟩) x300001_1.length co16) y303 := (by rw [hw, Ny303.out]; exact HP21.1); clear HP21; have n0_ := am (Kd.R_over' (v := (.slice (some ⟨go16, 0, none⟩) x300001_1.length co16)) (rB HO_300000.out) (Kd.S_typed HO_300001.out) (by decide) hg); have n1_ := am (hp_); have n2_ := am (blk_grown (g := gb292) (o := .cells #[.slice none 0 0, .slice none 0 0] 33 (0, 0)) (bB BK292.out) hg (Kd.S_ne HO_300001.out BK292.out (by decide))); have n3_ := am (blk_grown (g := gb299) (o := .cells #[.slice Ao9 y293.length co9, .slice (some ⟨go16, 0, none⟩) x300001_1.length co16] 33 (0, 0)) (bB BK299.out) hg (Kd.S_ne HO_300001.out BK299.out (by decide))); have n4_ := am ((by rw [hw]; exact below_set (HB.out) GB16.out : Below w.heap.size w w22)); clear HO_300000; clear HO_300001; clear BK292; clear BK299; clear HB; clear HO302; have HO_300000 := n0_; have HO_300001 := n1_; have BK292 := n2_; have BK299 := n3_; have HB := n4_; clear n0_ n1_ n2_ n3_ n4_; clear hg hw hp_))
       go_roundg k1
       case measure => have := HK1.out; omega
       case rel => exact ⟨(wrap64 (x13_1 + 1)), (y303), (.slice (some ⟨go16, 0, none⟩) x300001_1.length co16), (by first | rfl | (simp; done) | (simp [*]; done)), H', ⟨by have := HK1.out; omega⟩, ⟨by (with_reducible repeat (first | apply Kd.R_alloc | apply Kd.R_drewN | apply Kd.R_drew)); exact Kd.R_mono HO_300000.out (fun _ hk => trivial)⟩, ⟨by (with_reducible repeat (first | apply Kd.S_alloc | apply Kd.S_drewN | apply Kd.S_drew)); exact HO_300001.out⟩, ⟨bB BK292.out⟩, ⟨bB BK299.out⟩, ⟨sB HB.out⟩⟩
      ·rw [if_neg c15] at H
       exact absurd H (by simp)
     ·rw [if_neg c14] at H
      exact absurd H (by simp)
    ·rw [if_neg c13] at H
     have c13b0 : decide (x13_1 < (y296.length : Int)) = false := decide_eq_false c13
     clear c13
     replace H := Option.bind_eq_some_iff.mp H
     obtain ⟨t304, A230, H⟩ := H
     replace H : (impl_CompileRules.l1 k1 t304 (t304.length : Int) 0 y293 x300001_1) = some (r1, r2) := H
     have A23 := Aside0.mk A230
     clear A230
     have H' := Aside0.mk H
     clear H
     go_wp2_with (first | ((with_reducible refine gate_callee (f := 16) rfl ?_); refine goesL_ (some 23) rfl rfl Try.func16 (by kernel_rfl) rfl #[.slice A0 l0.length c0] rfl (by (try simp only [List.map_toArray, List.map_cons, List.map_nil]); first | done | rfl | (simp only [List.length_drop, List.length_take]; rfl)) ?_; (with_reducible refine (impl_SortRules.calls k1 _ _ l0 t304 _ ?side1 ?side2 A23.out).mono ?_); (case side1 => exact cB ((Kd.C_below HR0.out HB.out))); (case side2 => exact HC0.out); rintro e w24 ⟨v305, rfl, ho0, hb⟩; refine ⟨_, rfl, ?_⟩; have n0_ := am (Kd.R_elder' (rB HO_300000.out) (Kd.R_base ho0) hb); have n1_ := am (Kd.S_elder' (by (with_reducible repeat (first | apply Kd.S_alloc | apply Kd.S_drewN | apply Kd.S_drew)); exact HO_300001.out) (Kd.R_base ho0) hb); have n2_ := am (Kd.R_lower (Kd.R_new' ho0 (Kd.R_lt (rB HO_300000.out))) (below_size (sB HB.out))); have n3_ := am (blk_below (bB BK292.out) hb); have n4_ := am (blk_below (bB BK299.out) hb); have n5_ := am (below_step (sB HB.out) hb); clear HO_300000; clear HO_300001; clear BK292; clear BK299; clear HB; have HO_300000 := n0_; have HO_300001 := n1_; have HO306 := n2_; have BK292 := n3_; have BK299 := n4_; have HB := n5_; clear n0_ n1_ n2_ n3_ n4_ n5_; (try clear hb); (try clear hb2); (try clear hk); (try clear hi); (try clear ho0); obtain ⟨Ao25, co25, eo25⟩ := Kd.R_slice HO306.out; subst eo25))
     go_loopg [25] k1 (fun kq v25 w' => ∃ (x25_2 : Int) (x300000_2 : List (S37)) (x300001_2 : List (List (S37))) (u300000 : Value) (u300001 : Value), v25 = .int .i64 x25_2 ∧ Aside0 (impl_CompileRules.l1 kq t304 (t304.length : Int) x25_2 x300000_2 x300001_2 = some (r1, r2)) ∧ Aside0 (kq ≤ k1) ∧ Aside0 (Kd.R k37 37 w' w.heap.size (fun k_ => some k_ ≠ (u300000 : Value).ownBlock) (.slice Ao25 t304.length co25) t304) ∧ Aside0 (Kd.R k37 37 w' w.heap.size (fun k_ => some k_ ≠ ((.slice Ao25 t304.length co25) : Value).ownBlock) u300000 x300000_2) ∧ Aside0 (Kd.S (Kd.slice 37 k37) 24 w' w.heap.size (fun k_ => some k_ ≠ ((.slice Ao25 t304.length co25) : Value).ownBlock ∧ some k_ ≠ (u300000 : Value).ownBlock) u300001 x300001_2) ∧ Aside0 (w'.heap[gb292]? = some (.cells #[(.slice none 0 0), (.slice none 0 0)] 33 (0, 0))) ∧ Aside0 (w'.heap[gb299]? = some (.cells #[u300000, u300001] 33 (0, 0))) ∧ Aside0 (Below w.heap.size w w'))
     case atStart => exact ⟨(0), (y293), (x300001_1), (.slice Ao9 y293.length co9), (u300001), (by first | rfl | (simp; done) | (simp [*]; done)), H', ⟨Nat.le_refl _⟩, ⟨by (with_reducible repeat (first | apply Kd.R_alloc | apply Kd.R_drewN | apply Kd.R_drew)); exact Kd.R_mono HO306.out (fun _ hk => hk.2)⟩, ⟨by (with_reducible repeat (first | apply Kd.R_alloc | apply Kd.R_drewN | apply Kd.R_drew)); exact Kd.R_mono HO_300000.out (fun _ hk => hk.2)⟩, ⟨by (with_reducible repeat (first | apply Kd.S_alloc | apply Kd.S_drewN | apply Kd.S_drew)); exact Kd.S_mono HO_300001.out (fun _ hk => ⟨hk.2, hk.1⟩)⟩, ⟨bB BK292.out⟩, ⟨bB BK299.out⟩, ⟨sB HB.out⟩⟩
     case round =>
      clear H'
      try clear c1
      try clear p1
      try clear q1
      try clear hx1
      try clear hf1
      try clear c2
      try clear c2b0
      try clear c2b1
      try clear p2
      try clear hx2
      try clear hf2
      try clear p6
      try clear c9
      try clear c11
      try clear c13
      try clear c13b0
      try clear c14
      try clear c14b0
      try clear c15
      try clear c15b0
      try clear c16
      try clear p16
      try clear q16
      try clear hx16
      try clear hf16
      try clear c17
      try clear c21
      try clear hx21
      try clear hf21
      try clear hcz12_0 hcz12_1
      try clear hcz18_0 hcz18_1
      try clear hfz12_0 hfz12_1
      try clear hfz18_0 hfz18_1
      try clear hx16_0
      try clear hx21_0
      try clear p16
      try clear p2
      try clear q16
      obtain ⟨x25_2, x300000_2, x300001_2, u300000, u300001, rfl, HA, HK2, HO_23, HO_300000, HO_300001, BK292, BK299, HB⟩ := hrel
      cases gk with
      | zero => exact absurd HA.out (by simp [impl_CompileRules.l1])
      | succ k2 =>
       have H := HA.out
       clear HA
       simp only [impl_CompileRules.l1] at H
       by_cases c26 : x25_2 < (t304.length : Int)
       ·rw [if_pos c26] at H
        have c26b0 : decide (x25_2 < (t304.length : Int)) = true := decide_eq_true c26
        clear c26
        by_cases c27 : 0 ≤ x25_2
        ·rw [if_pos c27] at H
         have c27b0 : decide (0 ≤ x25_2) = true := decide_eq_true c27
         clear c27
         by_cases c28 : x25_2 < (t304.length : Int)
         ·rw [if_pos c28] at H
          have c28b0 : decide (x25_2 < (t304.length : Int)) = true := decide_eq_true c28
          clear c28
          by_cases c29 : ((rd_T37 t304 x25_2).f2.f0) = 0
          ·rw [if_pos c29] at H
           have c29b0 : (((rd_T37 t304 x25_2).f2.f0) == 0) = true := beq_iff_eq.mpr c29
           have c29b1 : (((rd_T37 t304 x25_2).f2.f0) != 0) = false := bne_eq_false_iff_eq.mpr c29
           clear c29
           by_cases c30 : x300000_2.length < 2199023255552
           ·rw [if_pos c30] at H
            have LMc30 := Aside0.mk c30
            clear c30
            obtain ⟨y309, hy309⟩ : ∃ y_ : List (S37), y_ = (x300000_2 ++ [(⟨(rd_T37 t304 x25_2).f0, (rd_T37 t304 x25_2).f1, (⟨(rd_T37 t304 x25_2).f2.f0, (rd_T37 t304 x25_2).f2.f1⟩ : S35), (rd_T37 t304 x25_2).f3, (rd_T37 t304 x25_2).f4, (⟨(rd_T37 t304 x25_2).f5.f0, (rd_T37 t304 x25_2).f5.f1⟩ : S26)⟩ : S37)]) := ⟨_, rfl⟩
            replace H : (impl_CompileRules.l1 k2 t304 (t304.length : Int) (wrap64 (x25_2 + 1)) y309 x300001_2) = some (r1, r2) := by first | (rw [hy309]; with_reducible exact H) | (have H2_ := (Option.bind_some _ _).symm.trans H; rw [hy309]; with_reducible exact H2_) | (have H2_ := (Option.bind_some _ _).symm.trans H; with_reducible exact H2_) | with_reducible exact H | (rw [hy309]; exact H) | exact H
            have Ny309 := Aside0.mk hy309
            clear hy309
            have H' := Aside0.mk H
            clear H
            have p307 : 0 ≤ (x25_2 : Int) := of_decide_eq_true (by first | (with_reducible assumption) | assumption)
            have q307 : x25_2 < (t304.length : Int) := of_decide_eq_true (by first | (with_reducible assumption) | assumption)
            obtain ⟨ad307, e307, hx307_0, hx307_1, hx307_2, hx307_3, hx307_4, hx307_5, hx307_6, hx307_7⟩ := at_T37 (Kd.R_reads' HO_23.out).2.2 x25_2 p307 q307
            cases e307
            replace p307 := eq_true p307
            replace q307 := eq_true q307
            go_wp2_with (first | ((with_reducible refine gate_dst (N := 6) rfl ?_); refine box_event ?hg (N := 6) ?hd (cs := #[.int .i64 0, .int .i64 0, .int .i64 0, .int .i64 0, .int .i64 0, .int .i64 0, .int .i64 0, .int .i64 0]) (t := 37) ?hr ?_; (case hd => rfl); (case hg => rfl); (case hr => first | (go_simp; done) | (go_simp; rfl)); intro gb308 hg w31 hbox hb; have n0_ := am (Kd.R_below (Kd.R_elderB (rB HO_23.out) gb308 (Nat.le_of_eq hg.symm)) hb); have n1_ := am (Kd.R_below (Kd.R_elderB (rB HO_300000.out) gb308 (Nat.le_of_eq hg.symm)) hb); have n2_ := am (Kd.S_below (Kd.S_elderB (by (with_reducible repeat (first | apply Kd.S_alloc | apply Kd.S_drewN | apply Kd.S_drew)); exact HO_300001.out) gb308 (Nat.le_of_eq hg.symm)) hb); have n3_ := am (blk_below (bB BK292.out) hb); have n4_ := am (blk_below (bB BK299.out) hb); have q_ := hbx_ (sB HB.out) hg hb; have n5_ := q_.1; have n6_ := am (hbox); have n7_ := q_.2; have n8_ := n7_; have n9_ := am ((by rw [hg]; exact Nat.ne_of_lt (blk_lt (g := gb292) (o := .cells #[.slice none 0 0, .slice none 0 0] 33 (0, 0)) (bB BK292.out)) : gb292 ≠ gb308)); have n10_ := am ((by rw [hg]; exact Nat.ne_of_gt (blk_lt (g := gb292) (o := .cells #[.slice none 0 0, .slice none 0 0] 33 (0, 0)) (bB BK292.out)) : gb308 ≠ gb292)); have n11_ := am ((by rw [hg]; exact Nat.ne_of_lt (blk_lt (g := gb299) (o := .cells #[u300000, u300001] 33 (0, 0)) (bB BK299.out)) : gb299 ≠ gb308)); have n12_ := am ((by rw [hg]; exact Nat.ne_of_gt (blk_lt (g := gb299) (o := .cells #[u300000, u300001] 33 (0, 0)) (bB BK299.out)) : gb308 ≠ gb299)); clear HO_23; clear HO_300000; clear HO_300001; clear BK292; clear BK299; clear HB; have HO_23 := n0_; have HO_300000 := n1_; have HO_300001 := n2_; have BK292 := n3_; have BK299 := n4_; have HB := n5_; have BK308 := n6_; have GW308 := n7_; have GE308 := n8_; have NB292_308 := n9_; have NB308_292 := n10_; have NB299_308 := n11_; have NB308_299 := n12_; clear n0_ n1_ n2_ n3_ n4_ n5_ n6_ n7_ n8_ n9_ n10_ n11_ n12_; clear hb hbox hg; have hnb32 := NB308_292.out; have hnc32 := NB292_308.out; have hnb33 := NB308_299.out; have hnc33 := NB299_308.out; obtain ⟨hcz34_0, hcz34_1, hcz34_2, hcz34_3, hcz34_4, hcz34_5, hcz34_6, hcz34_7, hfz34_0, hfz34_1, hfz34_2, hfz34_3, hfz34_4, hfz34_5, hfz34_6, hfz34_7⟩ := blk8 BK308.out; have hnb35 := NB299_292.out; have hnc35 := NB292_299.out; obtain ⟨hcz36_0, hcz36_1, hfz36_0, hfz36_1⟩ := blk2 BK299.out) | ((with_reducible refine gate_builtin (b := .append) (xs := #[.tmp 34, .tmp 36]) rfl ?_); at_builtin; refine Kd.R_append k37 (w0 := w) w.heap.size rfl (.tmp 34) (.tmp 36) 24 37 (.agg #[(.int .i64 0), (.int .i64 0), (.int .i64 0), (.int .i64 0), (.int .i64 0), (.int .i64 0), (.int .i64 0), (.int .i64 0)]) 64 rfl Try.underlying24 info37 rfl (by decide) (by omega) u300000 x300000_2 (⟨(rd_T37 t304 x25_2).f0, (rd_T37 t304 x25_2).f1, (⟨(rd_T37 t304 x25_2).f2.f0, (rd_T37 t304 x25_2).f2.f1⟩ : S35), (rd_T37 t304 x25_2).f3, (rd_T37 t304 x25_2).f4, (⟨(rd_T37 t304 x25_2).f5.f0, (rd_T37 t304 x25_2).f5.f1⟩ : S26)⟩ : S37) [.int .i64 ((rd_T37 t304 x25_2).f0), .int .i64 ((rd_T37 t304 x25_2).f1), .int .i64 ((rd_T37 t304 x25_2).f2.f0), .int .i64 ((rd_T37 t304 x25_2).f2.f1), .int .i64 ((rd_T37 t304 x25_2).f3), .int .i64 ((rd_T37 t304 x25_2).f4), .int .i64 ((rd_T37 t304 x25_2).f5.f0), .int .i64 ((rd_T37 t304 x25_2).f5.f1)] (fun k_ => some k_ ≠ (.slice (some ad307) t304.length co25 : Value).ownBlock ∧ k_ ≠ gb308) (fun _ => False) rfl (by first | (go_simp; done) | (go_simp; rfl)) ?aP (fun _ hk => hk.elim) ?aF ?aO ?aB ?aS ?aL ?_; (case aP => exact k37_mkM _ _ _ (⟨(rd_T37 t304 x25_2).f0, (rd_T37 t304 x25_2).f1, (⟨(rd_T37 t304 x25_2).f2.f0, (rd_T37 t304 x25_2).f2.f1⟩ : S35), (rd_T37 t304 x25_2).f3, (rd_T37 t304 x25_2).f4, (⟨(rd_T37 t304 x25_2).f5.f0, (rd_T37 t304 x25_2).f5.f1⟩ : S26)⟩ : S37)); (case aB => exact (sB HB.out)); (case aF => exact (fun k_ hk => ⟨Kd.fresh' (Kd.R_lt (by (with_reducible repeat (first | apply Kd.R_alloc | apply Kd.R_drewN | apply Kd.R_drew)); exact (Kd.R_mono (Kd.R_far (p := ⟨gb308, 7, none⟩) (Kd.R_far (p := ⟨gb308, 6, none⟩) (Kd.R_far (p := ⟨gb308, 5, none⟩) (Kd.R_far (p := ⟨gb308, 4, none⟩) (Kd.R_far (p := ⟨gb308, 3, none⟩) (Kd.R_far (p := ⟨gb308, 2, none⟩) (Kd.R_far (p := ⟨gb308, 1, none⟩) (Kd.R_far (p := ⟨gb308, 0, none⟩) (Kd.R_mono HO_23.out (fun k_ hk => (⟨hk, hk.2⟩ : _ ∧ k_ ≠ gb308))) (fun _ hk => hk.2) (.int .i64 ((rd_T37 t304 x25_2).f0))) (fun _ hk => hk.2) (.int .i64 ((rd_T37 t304 x25_2).f1))) (fun _ hk => hk.2) (.int .i64 ((rd_T37 t304 x25_2).f2.f0))) (fun _ hk => hk.2) (.int .i64 ((rd_T37 t304 x25_2).f2.f1))) (fun _ hk => hk.2) (.int .i64 ((rd_T37 t304 x25_2).f3))) (fun _ hk => hk.2) (.int .i64 ((rd_T37 t304 x25_2).f4))) (fun _ hk => hk.2) (.int .i64 ((rd_T37 t304 x25_2).f5.f0))) (fun _ hk => hk.2) (.int .i64 ((rd_T37 t304 x25_2).f5.f1))) (fun _ h_ => h_.1)))) k_ hk, Kd.freshB (g := gb308) (o := .cells #[.int .i64 ((rd_T37 t304 x25_2).f0), .int .i64 ((rd_T37 t304 x25_2).f1), .int .i64 ((rd_T37 t304 x25_2).f2.f0), .int .i64 ((rd_T37 t304 x25_2).f2.f1), .int .i64 ((rd_T37 t304 x25_2).f3), .int .i64 ((rd_T37 t304 x25_2).f4), .int .i64 ((rd_T37 t304 x25_2).f5.f0), .int .i64 ((rd_T37 t304 x25_2).f5.f1)] 37 (0, 0)) (by refine bB ?_; refine blk_put (cs := #[.int .i64 ((rd_T37 t304 x25_2).f0), .int .i64 ((rd_T37 t304 x25_2).f1), .int .i64 ((rd_T37 t304 x25_2).f2.f0), .int .i64 ((rd_T37 t304 x25_2).f2.f1), .int .i64 ((rd_T37 t304 x25_2).f3), .int .i64 ((rd_T37 t304 x25_2).f4), .int .i64 ((rd_T37 t304 x25_2).f5.f0), .int .i64 0]) ?_ 7 _ rfl; refine bB ?_; refine blk_put (cs := #[.int .i64 ((rd_T37 t304 x25_2).f0), .int .i64 ((rd_T37 t304 x25_2).f1), .int .i64 ((rd_T37 t304 x25_2).f2.f0), .int .i64 ((rd_T37 t304 x25_2).f2.f1), .int .i64 ((rd_T37 t304 x25_2).f3), .int .i64 ((rd_T37 t304 x25_2).f4), .int .i64 0, .int .i64 0]) ?_ 6 _ rfl; refine bB ?_; refine blk_put (cs := #[.int .i64 ((rd_T37 t304 x25_2).f0), .int .i64 ((rd_T37 t304 x25_2).f1), .int .i64 ((rd_T37 t304 x25_2).f2.f0), .int .i64 ((rd_T37 t304 x25_2).f2.f1), .int .i64 ((rd_T37 t304 x25_2).f3), .int .i64 0, .int .i64 0, .int .i64 0]) ?_ 5 _ rfl; refine bB ?_; refine blk_put (cs := #[.int .i64 ((rd_T37 t304 x25_2).f0), .int .i64 ((rd_T37 t304 x25_2).f1), .int .i64 ((rd_T37 t304 x25_2).f2.f0), .int .i64 ((rd_T37 t304 x25_2).f2.f1), .int .i64 0, .int .i64 0, .int .i64 0, .int .i64 0]) ?_ 4 _ rfl; refine bB ?_; refine blk_put (cs := #[.int .i64 ((rd_T37 t304 x25_2).f0), .int .i64 ((rd_T37 t304 x25_2).f1), .int .i64 ((rd_T37 t304 x25_2).f2.f0), .int .i64 0, .int .i64 0, .int .i64 0, .int .i64 0, .int .i64 0]) ?_ 3 _ rfl; refine bB ?_; refine blk_put (cs := #[.int .i64 ((rd_T37 t304 x25_2).f0), .int .i64 ((rd_T37 t304 x25_2).f1), .int .i64 0, .int .i64 0, .int .i64 0, .int .i64 0, .int .i64 0, .int .i64 0]) ?_ 2 _ rfl; refine bB ?_; refine blk_put (cs := #[.int .i64 ((rd_T37 t304 x25_2).f0), .int .i64 0, .int .i64 0, .int .i64 0, .int .i64 0, .int .i64 0, .int .i64 0, .int .i64 0]) ?_ 1 _ rfl; refine bB ?_; refine blk_put (cs := #[.int .i64 0, .int .i64 0, .int .i64 0, .int .i64 0, .int .i64 0, .int .i64 0, .int .i64 0, .int .i64 0]) ?_ 0 _ rfl; refine bB ?_; exact BK308.out) k_ hk⟩)); (case aO => exact (by (with_reducible repeat (first | apply Kd.R_alloc | apply Kd.R_drewN | apply Kd.R_drew)); exact Kd.R_mono (Kd.R_far (p := ⟨gb308, 7, none⟩) (Kd.R_far (p := ⟨gb308, 6, none⟩) (Kd.R_far (p := ⟨gb308, 5, none⟩) (Kd.R_far (p := ⟨gb308, 4, none⟩) (Kd.R_far (p := ⟨gb308, 3, none⟩) (Kd.R_far (p := ⟨gb308, 2, none⟩) (Kd.R_far (p := ⟨gb308, 1, none⟩) (Kd.R_far (p := ⟨gb308, 0, none⟩) (Kd.R_mono HO_300000.out (fun k_ hk => (⟨hk, hk.2⟩ : _ ∧ k_ ≠ gb308))) (fun _ hk => hk.2) (.int .i64 ((rd_T37 t304 x25_2).f0))) (fun _ hk => hk.2) (.int .i64 ((rd_T37 t304 x25_2).f1))) (fun _ hk => hk.2) (.int .i64 ((rd_T37 t304 x25_2).f2.f0))) (fun _ hk => hk.2) (.int .i64 ((rd_T37 t304 x25_2).f2.f1))) (fun _ hk => hk.2) (.int .i64 ((rd_T37 t304 x25_2).f3))) (fun _ hk => hk.2) (.int .i64 ((rd_T37 t304 x25_2).f4))) (fun _ hk => hk.2) (.int .i64 ((rd_T37 t304 x25_2).f5.f0))) (fun _ hk => hk.2) (.int .i64 ((rd_T37 t304 x25_2).f5.f1))) (fun _ hk => ⟨hk.1.1, hk.1.2⟩))); (case aS => exact (below_size (sB HB.out))); (case aL => have := LMc30.out; omega); intro v310 w37 ho hb hg hat; rw [← Ny309.out] at ho; have n0_ := am (Kd.R_after (ok := (fun k_ => k_ ≠ gb308)) (by (with_reducible repeat (first | apply Kd.R_alloc | apply Kd.R_drewN | apply Kd.R_drew)); exact Kd.R_mono (Kd.R_far (p := ⟨gb308, 7, none⟩) (Kd.R_far (p := ⟨gb308, 6, none⟩) (Kd.R_far (p := ⟨gb308, 5, none⟩) (Kd.R_far (p := ⟨gb308, 4, none⟩) (Kd.R_far (p := ⟨gb308, 3, none⟩) (Kd.R_far (p := ⟨gb308, 2, none⟩) (Kd.R_far (p := ⟨gb308, 1, none⟩) (Kd.R_far (p := ⟨gb308, 0, none⟩) (Kd.R_mono HO_23.out (fun k_ hk => (⟨hk, hk.2⟩ : _ ∧ k_ ≠ gb308))) (fun _ hk => hk.2) (.int .i64 ((rd_T37 t304 x25_2).f0))) (fun _ hk => hk.2) (.int .i64 ((rd_T37 t304 x25_2).f1))) (fun _ hk => hk.2) (.int .i64 ((rd_T37 t304 x25_2).f2.f0))) (fun _ hk => hk.2) (.int .i64 ((rd_T37 t304 x25_2).f2.f1))) (fun _ hk => hk.2) (.int .i64 ((rd_T37 t304 x25_2).f3))) (fun _ hk => hk.2) (.int .i64 ((rd_T37 t304 x25_2).f4))) (fun _ hk => hk.2) (.int .i64 ((rd_T37 t304 x25_2).f5.f0))) (fun _ hk => hk.2) (.int .i64 ((rd_T37 t304 x25_2).f5.f1))) (fun _ hk => ⟨hk.1.2, hk.1.1⟩)) hg hat); have n1_ := am (Kd.S_after (ok := (fun k_ => some k_ ≠ (.slice (some ad307) t304.length co25 : Value).ownBlock ∧ k_ ≠ gb308)) (by (with_reducible repeat (first | apply Kd.S_alloc | apply Kd.S_drewN | apply Kd.S_drew)); exact Kd.S_mono (Kd.S_far (p := ⟨gb308, 7, none⟩) (Kd.S_far (p := ⟨gb308, 6, none⟩) (Kd.S_far (p := ⟨gb308, 5, none⟩) (Kd.S_far (p := ⟨gb308, 4, none⟩) (Kd.S_far (p := ⟨gb308, 3, none⟩) (Kd.S_far (p := ⟨gb308, 2, none⟩) (Kd.S_far (p := ⟨gb308, 1, none⟩) (Kd.S_far (p := ⟨gb308, 0, none⟩) (Kd.S_mono HO_300001.out (fun k_ hk => (⟨hk, hk.2⟩ : _ ∧ k_ ≠ gb308))) (fun _ hk => hk.2) (.int .i64 ((rd_T37 t304 x25_2).f0))) (fun _ hk => hk.2) (.int .i64 ((rd_T37 t304 x25_2).f1))) (fun _ hk => hk.2) (.int .i64 ((rd_T37 t304 x25_2).f2.f0))) (fun _ hk => hk.2) (.int .i64 ((rd_T37 t304 x25_2).f2.f1))) (fun _ hk => hk.2) (.int .i64 ((rd_T37 t304 x25_2).f3))) (fun _ hk => hk.2) (.int .i64 ((rd_T37 t304 x25_2).f4))) (fun _ hk => hk.2) (.int .i64 ((rd_T37 t304 x25_2).f5.f0))) (fun _ hk => hk.2) (.int .i64 ((rd_T37 t304 x25_2).f5.f1))) (fun _ hk => ⟨⟨hk.1.1.1, hk.1.2⟩, hk.1.1.2⟩)) hg hat); have n2_ := am (blk_grown (g := gb292) (o := .cells #[.slice none 0 0, .slice none 0 0] 33 (0, 0)) (by refine bB ?_; refine blk_far ?_ NB292_308.out _; refine bB ?_; refine blk_far ?_ NB292_308.out _; refine bB ?_; refine blk_far ?_ NB292_308.out _; refine bB ?_; refine blk_far ?_ NB292_308.out _; refine bB ?_; refine blk_far ?_ NB292_308.out _; refine bB ?_; refine blk_far ?_ NB292_308.out _; refine bB ?_; refine blk_far ?_ NB292_308.out _; refine bB ?_; refine blk_far ?_ NB292_308.out _; refine bB ?_; exact BK292.out) hg (Kd.R_ne HO_300000.out BK292.out (by decide))); have n3_ := am (blk_grown (g := gb299) (o := .cells #[u300000, u300001] 33 (0, 0)) (by refine bB ?_; refine blk_far ?_ NB299_308.out _; refine bB ?_; refine blk_far ?_ NB299_308.out _; refine bB ?_; refine blk_far ?_ NB299_308.out _; refine bB ?_; refine blk_far ?_ NB299_308.out _; refine bB ?_; refine blk_far ?_ NB299_308.out _; refine bB ?_; refine blk_far ?_ NB299_308.out _; refine bB ?_; refine blk_far ?_ NB299_308.out _; refine bB ?_; refine blk_far ?_ NB299_308.out _; refine bB ?_; exact BK299.out) hg (Kd.R_ne HO_300000.out BK299.out (by decide))); have n4_ := am (blk_grown (g := gb308) (o := .cells #[.int .i64 ((rd_T37 t304 x25_2).f0), .int .i64 ((rd_T37 t304 x25_2).f1), .int .i64 ((rd_T37 t304 x25_2).f2.f0), .int .i64 ((rd_T37 t304 x25_2).f2.f1), .int .i64 ((rd_T37 t304 x25_2).f3), .int .i64 ((rd_T37 t304 x25_2).f4), .int .i64 ((rd_T37 t304 x25_2).f5.f0), .int .i64 ((rd_T37 t304 x25_2).f5.f1)] 37 (0, 0)) (by refine bB ?_; refine blk_put (cs := #[.int .i64 ((rd_T37 t304 x25_2).f0), .int .i64 ((rd_T37 t304 x25_2).f1), .int .i64 ((rd_T37 t304 x25_2).f2.f0), .int .i64 ((rd_T37 t304 x25_2).f2.f1), .int .i64 ((rd_T37 t304 x25_2).f3), .int .i64 ((rd_T37 t304 x25_2).f4), .int .i64 ((rd_T37 t304 x25_2).f5.f0), .int .i64 0]) ?_ 7 _ rfl; refine bB ?_; refine blk_put (cs := #[.int .i64 ((rd_T37 t304 x25_2).f0), .int .i64 ((rd_T37 t304 x25_2).f1), .int .i64 ((rd_T37 t304 x25_2).f2.f0), .int .i64 ((rd_T37 t304 x25_2).f2.f1), .int .i64 ((rd_T37 t304 x25_2).f3), .int .i64 ((rd_T37 t304 x25_2).f4), .int .i64 0, .int .i64 0]) ?_ 6 _ rfl; refine bB ?_; refine blk_put (cs := #[.int .i64 ((rd_T37 t304 x25_2).f0), .int .i64 ((rd_T37 t304 x25_2).f1), .int .i64 ((rd_T37 t304 x25_2).f2.f0), .int .i64 ((rd_T37 t304 x25_2).f2.f1), .int .i64 ((rd_T37 t304 x25_2).f3), .int .i64 0, .int .i64 0, .int .i64 0]) ?_ 5 _ rfl; refine bB ?_; refine blk_put (cs := #[.int .i64 ((rd_T37 t304 x25_2).f0), .int .i64 ((rd_T37 t304 x25_2).f1), .int .i64 ((rd_T37 t304 x25_2).f2.f0), .int .i64 ((rd_T37 t304 x25_2).f2.f1), .int .i64 0, .int .i64 0, .int .i64 0, .int .i64 0]) ?_ 4 _ rfl; refine bB ?_; refine blk_put (cs := #[.int .i64 ((rd_T37 t304 x25_2).f0), .int .i64 ((rd_T37 t304 x25_2).f1), .int .i64 ((rd_T37 t304 x25_2).f2.f0), .int .i64 0, .int .i64 0, .int .i64 0, .int .i64 0, .int .i64 0]) ?_ 3 _ rfl; refine bB ?_; refine blk_put (cs := #[.int .i64 ((rd_T37 t304 x25_2).f0), .int .i64 ((rd_T37 t304 x25_2).f1), .int .i64 0, .int .i64 0, .int .i64 0, .int .i64 0, .int .i64 0, .int .i64 0]) ?_ 2 _ rfl; refine bB ?_; refine blk_put (cs := #[.int .i64 ((rd_T37 t304 x25_2).f0), .int .i64 0, .int .i64 0, .int .i64 0, .int .i64 0, .int .i64 0, .int .i64 0, .int .i64 0]) ?_ 1 _ rfl; refine bB ?_; refine blk_put (cs := #[.int .i64 0, .int .i64 0, .int .i64 0, .int .i64 0, .int .i64 0, .int .i64 0, .int .i64 0, .int .i64 0]) ?_ 0 _ rfl; refine bB ?_; exact BK308.out) hg (Kd.R_away HO_300000.out (fun _ hk => hk.2))); have n5_ := am (hb); have n6_ := am (ho); clear HO_23; clear HO_300001; clear BK292; clear BK299; clear BK308; clear HB; clear HO_300000; have HO_23 := n0_; have HO_300001 := n1_; have BK292 := n2_; have BK299 := n3_; have BK308 := n4_; have HB := n5_; have HO311 := n6_; clear n0_ n1_ n2_ n3_ n4_ n5_ n6_; clear ho hb hg hat; obtain ⟨Ao38, co38, eo38⟩ := Kd.R_slice HO311.out; subst eo38; obtain ⟨hcz39_0, hcz39_1, hfz39_0, hfz39_1⟩ := blk2 BK299.out))
            go_roundg k2
            case measure => have := HK1.out; have := HK2.out; omega
            case rel => exact ⟨(wrap64 (x25_2 + 1)), (y309), (x300001_2), (.slice Ao38 y309.length co38), (u300001), (by first | rfl | (simp; done) | (simp [*]; done)), H', ⟨by have := HK1.out; have := HK2.out; omega⟩, ⟨by (with_reducible repeat (first | apply Kd.R_alloc | apply Kd.R_drewN | apply Kd.R_drew)); exact Kd.R_mono (Kd.R_far (p := ⟨gb299, 0, none⟩) (Kd.R_types HO_23.out BK299.out (by decide)) (fun _ hk => hk.2) (.slice Ao38 y309.length co38)) (fun _ hk => hk.1.2)⟩, ⟨by (with_reducible repeat (first | apply Kd.R_alloc | apply Kd.R_drewN | apply Kd.R_drew)); exact Kd.R_mono (Kd.R_far (p := ⟨gb299, 0, none⟩) (Kd.R_types HO311.out BK299.out (by decide)) (fun _ hk => hk.2) (.slice Ao38 y309.length co38)) (fun _ hk => hk.1.1)⟩, ⟨by (with_reducible repeat (first | apply Kd.S_alloc | apply Kd.S_drewN | apply Kd.S_drew)); exact Kd.S_mono (Kd.S_far (p := ⟨gb299, 0, none⟩) (Kd.S_types HO_300001.out BK299.out (by decide)) (fun _ hk => hk.2) (.slice Ao38 y309.length co38)) (fun _ hk => ⟨hk.1.1.1, hk.1.2⟩)⟩, ⟨by refine bB ?_; refine blk_far ?_ NB292_299.out _; refine bB ?_; exact BK292.out⟩, ⟨by refine bB ?_; refine blk_put (cs := #[u300000, u300001]) ?_ 0 _ rfl; refine bB ?_; exact BK299.out⟩, ⟨sB HB.out⟩⟩
           ·rw [if_neg c30] at H
            exact absurd H (by simp)
          ·rw [if_neg c29] at H
           have c29b0 : (((rd_T37 t304 x25_2).f2.f0) == 0) = false := beq_eq_false_iff_ne.mpr c29
           have c29b1 : (((rd_T37 t304 x25_2).f2.f0) != 0) = true := bne_iff_ne.mpr c29
           obtain ⟨ji40, hji40⟩ : ∃ j_ : Int, (wrap64 (((rd_T37 t304 x25_2).f2.f0) - 1)) = j_ := ⟨_, rfl⟩
           replace H : (if 0 ≤ (ji40) then (if (ji40) < (x300001_2.length : Int) then (if (rd_L7 x300001_2 (ji40)).length < 2199023255552 then (impl_CompileRules.l1 k2 t304 (t304.length : Int) (wrap64 (x25_2 + 1)) x300000_2 (x300001_2.set ((ji40) : Int).toNat ((rd_L7 x300001_2 (ji40)) ++ [(⟨(rd_T37 t304 x25_2).f0, (rd_T37 t304 x25_2).f1, (⟨(rd_T37 t304 x25_2).f2.f0, (rd_T37 t304 x25_2).f2.f1⟩ : S35), (rd_T37 t304 x25_2).f3, (rd_T37 t304 x25_2).f4, (⟨(rd_T37 t304 x25_2).f5.f0, (rd_T37 t304 x25_2).f5.f1⟩ : S26)⟩ : S37)]))) else (none)) else (none)) else (none)) = some (r1, r2) := by first | (rw [hji40] at H; exact H) | (simp only [hji40] at H ⊢; exact H)
           have hji40w : (IntKind.i64.wrap (((rd_T37 t304 x25_2).f2.f0) - 1)) = ji40 := (i64_w _).trans hji40
           by_cases c41 : 0 ≤ (ji40)
           ·rw [if_pos c41] at H
            have c41b0 : decide (0 ≤ (ji40)) = true := decide_eq_true c41
            clear c41
            by_cases c42 : (ji40) < (x300001_2.length : Int)
            ·rw [if_pos c42] at H
             have c42b0 : decide ((ji40) < (x300001_2.length : Int)) = true := decide_eq_true c42
             clear c42
             by_cases c43 : (rd_L7 x300001_2 (ji40)).length < 2199023255552
             ·rw [if_pos c43] at H
              have LMc43 := Aside0.mk c43
              clear c43
              obtain ⟨y313, hy313⟩ : ∃ y_ : List (S37), y_ = ((rd_L7 x300001_2 (ji40)) ++ [(⟨(rd_T37 t304 x25_2).f0, (rd_T37 t304 x25_2).f1, (⟨(rd_T37 t304 x25_2).f2.f0, (rd_T37 t304 x25_2).f2.f1⟩ : S35), (rd_T37 t304 x25_2).f3, (rd_T37 t304 x25_2).f4, (⟨(rd_T37 t304 x25_2).f5.f0, (rd_T37 t304 x25_2).f5.f1⟩ : S26)⟩ : S37)]) := ⟨_, rfl⟩
              replace H : (impl_CompileRules.l1 k2 t304 (t304.length : Int) (wrap64 (x25_2 + 1)) x300000_2 (x300001_2.set ((ji40) : Int).toNat y313)) = some (r1, r2) := by first | (rw [hy313]; with_reducible exact H) | (have H2_ := (Option.bind_some _ _).symm.trans H; rw [hy313]; with_reducible exact H2_) | (have H2_ := (Option.bind_some _ _).symm.trans H; with_reducible exact H2_) | with_reducible exact H | (rw [hy313]; exact H) | exact H
              have Ny313 := Aside0.mk hy313
              clear hy313
              obtain ⟨y316, hy316⟩ : ∃ y_ : List (List (S37)), y_ = (x300001_2.set ((ji40) : Int).toNat y313) := ⟨_, rfl⟩
              replace H : (impl_CompileRules.l1 k2 t304 (t304.length : Int) (wrap64 (x25_2 + 1)) x300000_2 y316) = some (r1, r2) := by first | (rw [hy316]; with_reducible exact H) | (have H2_ := (Option.bind_some _ _).symm.trans H; rw [hy316]; with_reducible exact H2_) | (have H2_ := (Option.bind_some _ _).symm.trans H; with_reducible exact H2_) | with_reducible exact H | (rw [hy316]; exact H) | exact H
              have Ny316 := Aside0.mk hy316
              clear hy316
              have H' := Aside0.mk H
              clear H
              have p307 : 0 ≤ (x25_2 : Int) := of_decide_eq_true (by first | (with_reducible assumption) | assumption)
              have q307 : x25_2 < (t304.length : Int) := of_decide_eq_true (by first | (with_reducible assumption) | assumption)
              obtain ⟨ad307, e307, hx307_0, hx307_1, hx307_2, hx307_3, hx307_4, hx307_5, hx307_6, hx307_7⟩ := at_T37 (Kd.R_reads' HO_23.out).2.2 x25_2 p307 q307
              cases e307
              replace p307 := eq_true p307
              replace q307 := eq_true q307
              try go_wp2_with (first | ((with_reducible refine gate_dst (N := 6) rfl ?_); refine box_event ?hg (N := 6) ?hd (cs := #[.int .i64 0, .int .i64 0, .int .i64 0, .int .i64 0, .int .i64 0, .int .i64 0, .int .i64 0, .int .i64 0]) (t := 37) ?hr ?_; (case hd => rfl); (case hg => rfl); (case hr => first | (go_simp; done) | (go_simp; rfl)); intro gb308 hg w45 hbox hb; have n0_ := am (Kd.R_below (Kd.R_elderB (rB HO_23.out) gb308 (Nat.le_of_eq hg.symm)) hb); have n1_ := am (Kd.R_below (Kd.R_elderB (rB HO_300000.out) gb308 (Nat.le_of_eq hg.symm)) hb); have n2_ := am (Kd.S_below (Kd.S_elderB (by (with_reducible repeat (first | apply Kd.S_alloc | apply Kd.S_drewN | apply Kd.S_drew)); exact HO_300001.out) gb308 (Nat.le_of_eq hg.symm)) hb); have n3_ := am (blk_below (bB BK292.out) hb); have n4_ := am (blk_below (bB BK299.out) hb); have q_ := hbx_ (sB HB.out) hg hb; have n5_ := q_.1; have n6_ := am (hbox); have n7_ := q_.2; have n8_ := n7_; have n9_ := am ((by rw [hg]; exact Nat.ne_of_lt (blk_lt (g := gb292) (o := .cells #[.slice none 0 0, .slice none 0 0] 33 (0, 0)) (bB BK292.out)) : gb292 ≠ gb308)); have n10_ := am ((by rw [hg]; exact Nat.ne_of_gt (blk_lt (g := gb292) (o := .cells #[.slice none 0 0, .slice none 0 0] 33 (0, 0)) (bB BK292.out)) : gb308 ≠ gb292)); have n11_ := am ((by rw [hg]; exact Nat.ne_of_lt (blk_lt (g := gb299) (o := .cells #[u300000, u300001] 33 (0, 0)) (bB BK299.out)) : gb299 ≠ gb308)); have n12_ := am ((by rw [hg]; exact Nat.ne_of_gt (blk_lt (g := gb299) (o := .cells #[u300000, u300001] 33 (0, 0)) (bB BK299.out)) : gb308 ≠ gb299)); clear HO_23; clear HO_300000; clear HO_300001; clear BK292; clear BK299; clear HB; have HO_23 := n0_; have HO_300000 := n1_; have HO_300001 := n2_; have BK292 := n3_; have BK299 := n4_; have HB := n5_; have BK308 := n6_; have GW308 := n7_; have GE308 := n8_; have NB292_308 := n9_; have NB308_292 := n10_; have NB299_308 := n11_; have NB308_299 := n12_; clear n0_ n1_ n2_ n3_ n4_ n5_ n6_ n7_ n8_ n9_ n10_ n11_ n12_; clear hb hbox hg; have hnb46 := NB308_292.out; have hnc46 := NB292_308.out; have hnb47 := NB308_299.out; have hnc47 := NB299_308.out; obtain ⟨hcz48_0, hcz48_1, hcz48_2, hcz48_3, hcz48_4, hcz48_5, hcz48_6, hcz48_7, hfz48_0, hfz48_1, hfz48_2, hfz48_3, hfz48_4, hfz48_5, hfz48_6, hfz48_7⟩ := blk8 BK308.out))
              have n0_ : Aside0 (Kd.R k37 37 ((((((((w45.setCell ⟨gb308, 0, none⟩ (.int .i64 ((rd_T37 t304 x25_2).f0))).setCell ⟨gb308, 1, none⟩ (.int .i64 ((rd_T37 t304 x25_2).f1))).setCell ⟨gb308, 2, none⟩ (.int .i64 ((rd_T37 t304 x25_2).f2.f0))).setCell ⟨gb308, 3, none⟩ (.int .i64 ((rd_T37 t304 x25_2).f2.f1))).setCell ⟨gb308, 4, none⟩ (.int .i64 ((rd_T37 t304 x25_2).f3))).setCell ⟨gb308, 5, none⟩ (.int .i64 ((rd_T37 t304 x25_2).f4))).setCell ⟨gb308, 6, none⟩ (.int .i64 ((rd_T37 t304 x25_2).f5.f0))).setCell ⟨gb308, 7, none⟩ (.int .i64 ((rd_T37 t304 x25_2).f5.f1))) w.heap.size (fun k_ => some k_ ≠ (u300000 : Value).ownBlock ∧ k_ ≠ gb308) (.slice (some ad307) t304.length co25) t304) := ⟨by (with_reducible repeat (first | apply Kd.R_alloc | apply Kd.R_drewN | apply Kd.R_drew)); exact Kd.R_mono (Kd.R_far (p := ⟨gb308, 7, none⟩) (Kd.R_far (p := ⟨gb308, 6, none⟩) (Kd.R_far (p := ⟨gb308, 5, none⟩) (Kd.R_far (p := ⟨gb308, 4, none⟩) (Kd.R_far (p := ⟨gb308, 3, none⟩) (Kd.R_far (p := ⟨gb308, 2, none⟩) (Kd.R_far (p := ⟨gb308, 1, none⟩) (Kd.R_far (p := ⟨gb308, 0, none⟩) (Kd.R_mono HO_23.out (fun k_ hk => (⟨hk, hk.2⟩ : _ ∧ k_ ≠ gb308))) (fun _ hk => hk.2) (.int .i64 ((rd_T37 t304 x25_2).f0))) (fun _ hk => hk.2) (.int .i64 ((rd_T37 t304 x25_2).f1))) (fun _ hk => hk.2) (.int .i64 ((rd_T37 t304 x25_2).f2.f0))) (fun _ hk => hk.2) (.int .i64 ((rd_T37 t304 x25_2).f2.f1))) (fun _ hk => hk.2) (.int .i64 ((rd_T37 t304 x25_2).f3))) (fun _ hk => hk.2) (.int .i64 ((rd_T37 t304 x25_2).f4))) (fun _ hk => hk.2) (.int .i64 ((rd_T37 t304 x25_2).f5.f0))) (fun _ hk => hk.2) (.int .i64 ((rd_T37 t304 x25_2).f5.f1))) (fun _ hk => ⟨hk.1.1, hk.1.2⟩)⟩
              have n1_ : Aside0 (Kd.R k37 37 ((((((((w45.setCell ⟨gb308, 0, none⟩ (.int .i64 ((rd_T37 t304 x25_2).f0))).setCell ⟨gb308, 1, none⟩ (.int .i64 ((rd_T37 t304 x25_2).f1))).setCell ⟨gb308, 2, none⟩ (.int .i64 ((rd_T37 t304 x25_2).f2.f0))).setCell ⟨gb308, 3, none⟩ (.int .i64 ((rd_T37 t304 x25_2).f2.f1))).setCell ⟨gb308, 4, none⟩ (.int .i64 ((rd_T37 t304 x25_2).f3))).setCell ⟨gb308, 5, none⟩ (.int .i64 ((rd_T37 t304 x25_2).f4))).setCell ⟨gb308, 6, none⟩ (.int .i64 ((rd_T37 t304 x25_2).f5.f0))).setCell ⟨gb308, 7, none⟩ (.int .i64 ((rd_T37 t304 x25_2).f5.f1))) w.heap.size (fun k_ => some k_ ≠ (.slice (some ad307) t304.length co25 : Value).ownBlock ∧ k_ ≠ gb308) u300000 x300000_2) := ⟨by (with_reducible repeat (first | apply Kd.R_alloc | apply Kd.R_drewN | apply Kd.R_drew)); exact Kd.R_mono (Kd.R_far (p := ⟨gb308, 7, none⟩) (Kd.R_far (p := ⟨gb308, 6, none⟩) (Kd.R_far (p := ⟨gb308, 5, none⟩) (Kd.R_far (p := ⟨gb308, 4, none⟩) (Kd.R_far (p := ⟨gb308, 3, none⟩) (Kd.R_far (p := ⟨gb308, 2, none⟩) (Kd.R_far (p := ⟨gb308, 1, none⟩) (Kd.R_far (p := ⟨gb308, 0, none⟩) (Kd.R_mono HO_300000.out (fun k_ hk => (⟨hk, hk.2⟩ : _ ∧ k_ ≠ gb308))) (fun _ hk => hk.2) (.int .i64 ((rd_T37 t304 x25_2).f0))) (fun _ hk => hk.2) (.int .i64 ((rd_T37 t304 x25_2).f1))) (fun _ hk => hk.2) (.int .i64 ((rd_T37 t304 x25_2).f2.f0))) (fun _ hk => hk.2) (.int .i64 ((rd_T37 t304 x25_2).f2.f1))) (fun _ hk => hk.2) (.int .i64 ((rd_T37 t304 x25_2).f3))) (fun _ hk => hk.2) (.int .i64 ((rd_T37 t304 x25_2).f4))) (fun _ hk => hk.2) (.int .i64 ((rd_T37 t304 x25_2).f5.f0))) (fun _ hk => hk.2) (.int .i64 ((rd_T37 t304 x25_2).f5.f1))) (fun _ hk => ⟨hk.1.1, hk.1.2⟩)⟩
              have n2_ : Aside0 (Kd.S (Kd.slice 37 k37) 24 ((((((((w45.setCell ⟨gb308, 0, none⟩ (.int .i64 ((rd_T37 t304 x25_2).f0))).setCell ⟨gb308, 1, none⟩ (.int .i64 ((rd_T37 t304 x25_2).f1))).setCell ⟨gb308, 2, none⟩ (.int .i64 ((rd_T37 t304 x25_2).f2.f0))).setCell ⟨gb308, 3, none⟩ (.int .i64 ((rd_T37 t304 x25_2).f2.f1))).setCell ⟨gb308, 4, none⟩ (.int .i64 ((rd_T37 t304 x25_2).f3))).setCell ⟨gb308, 5, none⟩ (.int .i64 ((rd_T37 t304 x25_2).f4))).setCell ⟨gb308, 6, none⟩ (.int .i64 ((rd_T37 t304 x25_2).f5.f0))).setCell ⟨gb308, 7, none⟩ (.int .i64 ((rd_T37 t304 x25_2).f5.f1))) w.heap.size (fun k_ => some k_ ≠ (.slice (some ad307) t304.length co25 : Value).ownBlock ∧ some k_ ≠ (u300000 : Value).ownBlock ∧ k_ ≠ gb308) u300001 x300001_2) := ⟨by (with_reducible repeat (first | apply Kd.S_alloc | apply Kd.S_drewN | apply Kd.S_drew)); exact Kd.S_mono (Kd.S_far (p := ⟨gb308, 7, none⟩) (Kd.S_far (p := ⟨gb308, 6, none⟩) (Kd.S_far (p := ⟨gb308, 5, none⟩) (Kd.S_far (p := ⟨gb308, 4, none⟩) (Kd.S_far (p := ⟨gb308, 3, none⟩) (Kd.S_far (p := ⟨gb308, 2, none⟩) (Kd.S_far (p := ⟨gb308, 1, none⟩) (Kd.S_far (p := ⟨gb308, 0, none⟩) (Kd.S_mono HO_300001.out (fun k_ hk => (⟨hk, hk.2⟩ : _ ∧ k_ ≠ gb308))) (fun _ hk => hk.2) (.int .i64 ((rd_T37 t304 x25_2).f0))) (fun _ hk => hk.2) (.int .i64 ((rd_T37 t304 x25_2).f1))) (fun _ hk => hk.2) (.int .i64 ((rd_T37 t304 x25_2).f2.f0))) (fun _ hk => hk.2) (.int .i64 ((rd_T37 t304 x25_2).f2.f1))) (fun _ hk => hk.2) (.int .i64 ((rd_T37 t304 x25_2).f3))) (fun _ hk => hk.2) (.int .i64 ((rd_T37 t304 x25_2).f4))) (fun _ hk => hk.2) (.int .i64 ((rd_T37 t304 x25_2).f5.f0))) (fun _ hk => hk.2) (.int .i64 ((rd_T37 t304 x25_2).f5.f1))) (fun _ hk => ⟨hk.1.1.1, ⟨hk.1.1.2, hk.1.2⟩⟩)⟩
              have n3_ : Aside0 (((((((((w45.setCell ⟨gb308, 0, none⟩ (.int .i64 ((rd_T37 t304 x25_2).f0))).setCell ⟨gb308, 1, none⟩ (.int .i64 ((rd_T37 t304 x25_2).f1))).setCell ⟨gb308, 2, none⟩ (.int .i64 ((rd_T37 t304 x25_2).f2.f0))).setCell ⟨gb308, 3, none⟩ (.int .i64 ((rd_T37 t304 x25_2).f2.f1))).setCell ⟨gb308, 4, none⟩ (.int .i64 ((rd_T37 t304 x25_2).f3))).setCell ⟨gb308, 5, none⟩ (.int .i64 ((rd_T37 t304 x25_2).f4))).setCell ⟨gb308, 6, none⟩ (.int .i64 ((rd_T37 t304 x25_2).f5.f0))).setCell ⟨gb308, 7, none⟩ (.int .i64 ((rd_T37 t304 x25_2).f5.f1))).heap[gb292]? = some (.cells #[.slice none 0 0, .slice none 0 0] 33 (0, 0))) := ⟨by refine bB ?_; refine blk_far ?_ NB292_308.out _; refine bB ?_; refine blk_far ?_ NB292_308.out _; refine bB ?_; refine blk_far ?_ NB292_308.out _; refine bB ?_; refine blk_far ?_ NB292_308.out _; refine bB ?_; refine blk_far ?_ NB292_308.out _; refine bB ?_; refine blk_far ?_ NB292_308.out _; refine bB ?_; refine blk_far ?_ NB292_308.out _; refine bB ?_; refine blk_far ?_ NB292_308.out _; refine bB ?_; exact BK292.out⟩
              have n4_ : Aside0 (((((((((w45.setCell ⟨gb308, 0, none⟩ (.int .i64 ((rd_T37 t304 x25_2).f0))).setCell ⟨gb308, 1, none⟩ (.int .i64 ((rd_T37 t304 x25_2).f1))).setCell ⟨gb308, 2, none⟩ (.int .i64 ((rd_T37 t304 x25_2).f2.f0))).setCell ⟨gb308, 3, none⟩ (.int .i64 ((rd_T37 t304 x25_2).f2.f1))).setCell ⟨gb308, 4, none⟩ (.int .i64 ((rd_T37 t304 x25_2).f3))).setCell ⟨gb308, 5, none⟩ (.int .i64 ((rd_T37 t304 x25_2).f4))).setCell ⟨gb308, 6, none⟩ (.int .i64 ((rd_T37 t304 x25_2).f5.f0))).setCell ⟨gb308, 7, none⟩ (.int .i64 ((rd_T37 t304 x25_2).f5.f1))).heap[gb299]? = some (.cells #[u300000, u300001] 33 (0, 0))) := ⟨by refine bB ?_; refine blk_far ?_ NB299_308.out _; refine bB ?_; refine blk_far ?_ NB299_308.out _; refine bB ?_; refine blk_far ?_ NB299_308.out _; refine bB ?_; refine blk_far ?_ NB299_308.out _; refine bB ?_; refine blk_far ?_ NB299_308.out _; refine bB ?_; refine blk_far ?_ NB299_308.out _; refine bB ?_; refine blk_far ?_ NB299_308.out _; refine bB ?_; refine blk_far ?_ NB299_308.out _; refine bB ?_; exact BK299.out⟩
              have n5_ : Aside0 (((((((((w45.setCell ⟨gb308, 0, none⟩ (.int .i64 ((rd_T37 t304 x25_2).f0))).setCell ⟨gb308, 1, none⟩ (.int .i64 ((rd_T37 t304 x25_2).f1))).setCell ⟨gb308, 2, none⟩ (.int .i64 ((rd_T37 t304 x25_2).f2.f0))).setCell ⟨gb308, 3, none⟩ (.int .i64 ((rd_T37 t304 x25_2).f2.f1))).setCell ⟨gb308, 4, none⟩ (.int .i64 ((rd_T37 t304 x25_2).f3))).setCell ⟨gb308, 5, none⟩ (.int .i64 ((rd_T37 t304 x25_2).f4))).setCell ⟨gb308, 6, none⟩ (.int .i64 ((rd_T37 t304 x25_2).f5.f0))).setCell ⟨gb308, 7, none⟩ (.int .i64 ((rd_T37 t304 x25_2).f5.f1))).heap[gb308]? = some (.cells #[.int .i64 ((rd_T37 t304 x25_2).f0), .int .i64 ((rd_T37 t304 x25_2).f1), .int .i64 ((rd_T37 t304 x25_2).f2.f0), .int .i64 ((rd_T37 t304 x25_2).f2.f1), .int .i64 ((rd_T37 t304 x25_2).f3), .int .i64 ((rd_T37 t304 x25_2).f4), .int .i64 ((rd_T37 t304 x25_2).f5.f0), .int .i64 ((rd_T37 t304 x25_2).f5.f1)] 37 (0, 0))) := ⟨by refine bB ?_; refine blk_put (cs := #[.int .i64 ((rd_T37 t304 x25_2).f0), .int .i64 ((rd_T37 t304 x25_2).f1), .int .i64 ((rd_T37 t304 x25_2).f2.f0), .int .i64 ((rd_T37 t304 x25_2).f2.f1), .int .i64 ((rd_T37 t304 x25_2).f3), .int .i64 ((rd_T37 t304 x25_2).f4), .int .i64 ((rd_T37 t304 x25_2).f5.f0), .int .i64 0]) ?_ 7 _ rfl; refine bB ?_; refine blk_put (cs := #[.int .i64 ((rd_T37 t304 x25_2).f0), .int .i64 ((rd_T37 t304 x25_2).f1), .int .i64 ((rd_T37 t304 x25_2).f2.f0), .int .i64 ((rd_T37 t304 x25_2).f2.f1), .int .i64 ((rd_T37 t304 x25_2).f3), .int .i64 ((rd_T37 t304 x25_2).f4), .int .i64 0, .int .i64 0]) ?_ 6 _ rfl; refine bB ?_; refine blk_put (cs := #[.int .i64 ((rd_T37 t304 x25_2).f0), .int .i64 ((rd_T37 t304 x25_2).f1), .int .i64 ((rd_T37 t304 x25_2).f2.f0), .int .i64 ((rd_T37 t304 x25_2).f2.f1), .int .i64 ((rd_T37 t304 x25_2).f3), .int .i64 0, .int .i64 0, .int .i64 0]) ?_ 5 _ rfl; refine bB ?_; refine blk_put (cs := #[.int .i64 ((rd_T37 t304 x25_2).f0), .int .i64 ((rd_T37 t304 x25_2).f1), .int .i64 ((rd_T37 t304 x25_2).f2.f0), .int .i64 ((rd_T37 t304 x25_2).f2.f1), .int .i64 0, .int .i64 0, .int .i64 0, .int .i64 0]) ?_ 4 _ rfl; refine bB ?_; refine blk_put (cs := #[.int .i64 ((rd_T37 t304 x25_2).f0), .int .i64 ((rd_T37 t304 x25_2).f1), .int .i64 ((rd_T37 t304 x25_2).f2.f0), .int .i64 0, .int .i64 0, .int .i64 0, .int .i64 0, .int .i64 0]) ?_ 3 _ rfl; refine bB ?_; refine blk_put (cs := #[.int .i64 ((rd_T37 t304 x25_2).f0), .int .i64 ((rd_T37 t304 x25_2).f1), .int .i64 0, .int .i64 0, .int .i64 0, .int .i64 0, .int .i64 0, .int .i64 0]) ?_ 2 _ rfl; refine bB ?_; refine blk_put (cs := #[.int .i64 ((rd_T37 t304 x25_2).f0), .int .i64 0, .int .i64 0, .int .i64 0, .int .i64 0, .int .i64 0, .int .i64 0, .int .i64 0]) ?_ 1 _ rfl; refine bB ?_; refine blk_put (cs := #[.int .i64 0, .int .i64 0, .int .i64 0, .int .i64 0, .int .i64 0, .int .i64 0, .int .i64 0, .int .i64 0]) ?_ 0 _ rfl; refine bB ?_; exact BK308.out⟩
              have n6_ : Aside0 (Below w.heap.size w ((((((((w45.setCell ⟨gb308, 0, none⟩ (.int .i64 ((rd_T37 t304 x25_2).f0))).setCell ⟨gb308, 1, none⟩ (.int .i64 ((rd_T37 t304 x25_2).f1))).setCell ⟨gb308, 2, none⟩ (.int .i64 ((rd_T37 t304 x25_2).f2.f0))).setCell ⟨gb308, 3, none⟩ (.int .i64 ((rd_T37 t304 x25_2).f2.f1))).setCell ⟨gb308, 4, none⟩ (.int .i64 ((rd_T37 t304 x25_2).f3))).setCell ⟨gb308, 5, none⟩ (.int .i64 ((rd_T37 t304 x25_2).f4))).setCell ⟨gb308, 6, none⟩ (.int .i64 ((rd_T37 t304 x25_2).f5.f0))).setCell ⟨gb308, 7, none⟩ (.int .i64 ((rd_T37 t304 x25_2).f5.f1)))) := ⟨sB HB.out⟩
              (try clear HO_23)
              (try clear HO_300000)
              (try clear HO_300001)
              (try clear BK292)
              (try clear BK299)
              (try clear BK308)
              (try clear HB)
              generalize ((((((((w45.setCell ⟨gb308, 0, none⟩ (.int .i64 ((rd_T37 t304 x25_2).f0))).setCell ⟨gb308, 1, none⟩ (.int .i64 ((rd_T37 t304 x25_2).f1))).setCell ⟨gb308, 2, none⟩ (.int .i64 ((rd_T37 t304 x25_2).f2.f0))).setCell ⟨gb308, 3, none⟩ (.int .i64 ((rd_T37 t304 x25_2).f2.f1))).setCell ⟨gb308, 4, none⟩ (.int .i64 ((rd_T37 t304 x25_2).f3))).setCell ⟨gb308, 5, none⟩ (.int .i64 ((rd_T37 t304 x25_2).f4))).setCell ⟨gb308, 6, none⟩ (.int .i64 ((rd_T37 t304 x25_2).f5.f0))).setCell ⟨gb308, 7, none⟩ (.int .i64 ((rd_T37 t304 x25_2).f5.f1))) = w49 at n0_ n1_ n2_ n3_ n4_ n5_ n6_ ⊢
              have HO_23 := n0_
              have HO_300000 := n1_
              have HO_300001 := n2_
              have BK292 := n3_
              have BK299 := n4_
              have BK308 := n5_
              have HB := n6_
              clear n0_ n1_ n2_ n3_ n4_ n5_ n6_
              replace HO_23 := am (Kd.R_drew HO_23.out)
              replace HO_300000 := am (Kd.R_drew HO_300000.out)
              replace HO_300001 := am (Kd.S_drew HO_300001.out)
              replace BK292 := am (blk_drew BK292.out)
              replace BK299 := am (blk_drew BK299.out)
              replace BK308 := am (blk_drew BK308.out)
              replace HB := am (below_drew1 HB.out)
              obtain ⟨Ao51, co51, eo51⟩ := Kd.S_slice HO_300001.out
              (first | subst eo51 | (injection eo51 with f1_ f2_ f3_; have f4_ := f1_.symm; have f5_ := f3_.symm; clear f1_ f2_ f3_; subst f4_; subst f5_))
              have p312 : 0 ≤ ((ji40) : Int) := of_decide_eq_true (by first | (with_reducible assumption) | assumption)
              have q312 : (ji40) < (x300001_2.length : Int) := of_decide_eq_true (by first | (with_reducible assumption) | assumption)
              obtain ⟨ad312, A312_0, c312_0, e312, hx312_0, hl312_0, hi312_0⟩ := at_L7 (Kd.S_reads' HO_300001.out).2.2 (ji40) p312 q312
              cases e312
              obtain ⟨ce312, hce312, hMe312, hcc312⟩ := Kd.S_get HO_300001.out [] (ji40) p312 (by first | exact q312 | exact of_decide_eq_true (by first | (with_reducible assumption) | assumption) | (have e_ := (Kd.S_reads' HO_300001.out).1; omega))
              obtain ⟨ve312_0, rfl, ge312_0⟩ := hMe312
              have hv312_0 := hcc312 0 _ rfl
              rw [Nat.add_zero, show ((Kd.slice 37 k37)).sz = 1 from rfl, Nat.mul_one] at hv312_0
              replace hv312_0 := Option.some.inj (hv312_0.symm.trans hx312_0)
              rw [hv312_0] at ge312_0
              have HL312_0 := am (show Kd.R k37 37 _ _ _ _ (rd_L7 x300001_2 (ji40)) from ge312_0)
              clear hv312_0 ge312_0
              have HX312_0 := Aside0.mk hx312_0
              clear hcc312 hce312
              have HR312_0 := Aside0.mk hi312_0
              have HC312_0 := Aside0.mk hl312_0
              clear hi312_0 hl312_0
              replace p312 := eq_true p312
              replace q312 := eq_true q312
              obtain ⟨go52, co52, eo52, gb52, gl52, cl52, HG52⟩ := Kd.S_form HO_300001.out (by have h_ : ((ji40) : Int) < ((x300001_2.length : Int) : Int) := of_decide_eq_true (by first | (with_reducible assumption) | assumption); have h2_ : 0 ≤ ((ji40) : Int) := (of_decide_eq_true (by first | (with_reducible assumption) | assumption)); omega)
              (first | cases eo52 | (injection eo52 with ea_ en_ ec_; (first | subst ea_ | (injection ea_ with ea_; subst ea_)); subst ec_; clear en_))
              have GB52 := Aside0.mk gb52
              have GG52 := Aside0.mk HG52
              clear gb52 gl52 HG52
              (first | simp only [add_plain] at hx312_0 | skip)
              obtain ⟨oki52, ce52, hcl52, hM52, hcc52, _, _, hH52⟩ := Kd.S_elem HO_300001.out [] ((ji40) : Int) (of_decide_eq_true (by first | (with_reducible assumption) | assumption)) (by have h_ : ((ji40) : Int) < ((x300001_2.length : Int) : Int) := of_decide_eq_true (by first | (with_reducible assumption) | assumption); first | exact h_ | (have e_ := (Kd.S_reads' HO_300001.out).1; omega) | simpa using h_)
              obtain ⟨ve52_0, rfl, ge52_0⟩ := hM52
              have hv52 := hcc52 0 _ rfl
              have hX52 := HX312_0.out
              (try simp only [add_plain] at hX52)
              (try simp only [Nat.add_zero] at hv52)
              (try rw [show ((Kd.slice 37 k37)).sz = 1 from rfl, Nat.mul_one] at hv52)
              replace hv52 := Option.some.inj (hv52.symm.trans hX52)
              subst hv52
              clear hX52 hcc52 hcl52
              have UU52 := am (show Kd.R k37 37 _ w.heap.size oki52 (.slice A312_0 (rd_L7 x300001_2 (ji40)).length c312_0) (rd_L7 x300001_2 (ji40)) from ge52_0)
              have HH52 := Aside0.mk hH52
              have HN52 := am (Kd.S_reads' HO_300001.out).1
              clear hH52 ge52_0
              refine start_ (n := 19) (S := fun w' => w'.cell? ⟨gb299, 0, none⟩ = some (u300000) ∧ w'.cell? ⟨gb299, 1, none⟩ = some (.slice (some ⟨go52, 0, none⟩) x300001_2.length co51) ∧ w'.cell? ⟨gb308, 0, none⟩ = some (.int .i64 ((rd_T37 t304 x25_2).f0)) ∧ w'.cell? ⟨gb308, 1, none⟩ = some (.int .i64 ((rd_T37 t304 x25_2).f1)) ∧ w'.cell? ⟨gb308, 2, none⟩ = some (.int .i64 ((rd_T37 t304 x25_2).f2.f0)) ∧ w'.cell? ⟨gb308, 3, none⟩ = some (.int .i64 ((rd_T37 t304 x25_2).f2.f1)) ∧ w'.cell? ⟨gb308, 4, none⟩ = some (.int .i64 ((rd_T37 t304 x25_2).f3)) ∧ w'.cell? ⟨gb308, 5, none⟩ = some (.int .i64 ((rd_T37 t304 x25_2).f4)) ∧ w'.cell? ⟨gb308, 6, none⟩ = some (.int .i64 ((rd_T37 t304 x25_2).f5.f0)) ∧ w'.cell? ⟨gb308, 7, none⟩ = some (.int .i64 ((rd_T37 t304 x25_2).f5.f1)) ∧ w'.cell? ⟨go52, ((ji40)).toNat, none⟩ = some (.slice A312_0 (rd_L7 x300001_2 (ji40)).length c312_0)) (ds := [18]) #[z,z,z,z,z,z,z,z,z,z,z,z,z,z,z,z,z,z,z] (by kernel_rfl) rfl rfl ⟨(blk_cell BK299.out 0).trans rfl, (blk_cell BK299.out 1).trans rfl, (blk_cell BK308.out 0).trans rfl, (blk_cell BK308.out 1).trans rfl, (blk_cell BK308.out 2).trans rfl, (blk_cell BK308.out 3).trans rfl, (blk_cell BK308.out 4).trans rfl, (blk_cell BK308.out 5).trans rfl, (blk_cell BK308.out 6).trans rfl, (blk_cell BK308.out 7).trans rfl, hx312_0⟩ (fun hHeld => ?_); refine with_tabW impl_CompileRules.tab12 impl_CompileRules.bits12 (fun HT_ HW_ => ?_)
              generalize w49.drew = w50 at HO_23 HO_300000 HO_300001 BK292 BK299 BK308 HB GG52 HH52 HL312_0 HR312_0 HX312_0 UU52 hx312_0 hHeld ⊢
              refine pure_ (i := 0) (N := some 39) (v := ?_) (a' := ?_) #[o,z,z,z,z,z,z,z,z,z,z,z,z,z,z,z,z,z,z] rfl rfl (any_of HT_.out (by kernel_rfl)) (fun _ _ _ h => h) (Or.inl ⟨by rfl, ?_⟩) ?_ ?_
              rotate_left
              ·intro w'
               go_simp
               with_reducible rfl
              rotate_left
              ·simp only [Act.put, qa, qb, qc, i64_w, i32_w]
               rfl
              refine pure_ (i := 2) (N := some 41) (v := ?_) (a' := ?_) #[o,z,o,z,z,z,z,z,z,z,z,z,z,z,z,z,z,z,z] rfl rfl (any_of HT_.out (by kernel_rfl)) (fun _ _ _ h => h) (Or.inl ⟨by rfl, ?_⟩) ?_ ?_
              rotate_left
              ·intro w'
               go_simp
               with_reducible rfl
              rotate_left
              ·simp only [Act.put, qa, qb, qc, i64_w, i32_w]
               rfl
              refine pure_ (i := 3) (N := some 42) (v := ?_) (a' := ?_) #[o,z,o,o,z,z,z,z,z,z,z,z,z,z,z,z,z,z,z] rfl rfl (any_of HT_.out (by kernel_rfl)) (fun _ _ _ h => h) (Or.inl ⟨by rfl, ?_⟩) ?_ ?_
              rotate_left
              ·intro w'
               go_simp
               with_reducible rfl
              rotate_left
              ·simp only [Act.put, qa, qb, qc, i64_w, i32_w]
               rfl
              refine pure_ (i := 6) (N := some 45) (v := ?_) (a' := ?_) #[o,z,o,o,z,z,o,z,z,z,z,z,z,z,z,z,z,z,z] rfl rfl (any_of HT_.out (by kernel_rfl)) (fun _ _ _ h => h) (Or.inl ⟨by rfl, ?_⟩) ?_ ?_
              rotate_left
              ·intro w'
               go_simp
               with_reducible rfl
              rotate_left
              ·simp only [Act.put, qa, qb, qc, i64_w, i32_w]
               rfl
              refine pure_ (i := 8) (N := some 47) (v := ?_) (a' := ?_) #[o,z,o,o,z,z,o,z,o,z,z,z,z,z,z,z,z,z,z] rfl rfl (any_of HT_.out (by kernel_rfl)) (fun _ _ _ h => h) (Or.inl ⟨by rfl, ?_⟩) ?_ ?_
              rotate_left
              ·intro w'
               go_simp
               with_reducible rfl
              rotate_left
              ·simp only [Act.put, qa, qb, qc, i64_w, i32_w]
               rfl
              refine pure_ (i := 9) (N := some 48) (v := ?_) (a' := ?_) #[o,z,o,o,z,z,o,z,o,o,z,z,z,z,z,z,z,z,z] rfl rfl (any_of HT_.out (by kernel_rfl)) (fun _ _ _ h => h) (Or.inl ⟨by rfl, ?_⟩) ?_ ?_
              rotate_left
              ·intro w'
               go_simp
               with_reducible rfl
              rotate_left
              ·simp only [Act.put, qa, qb, qc, i64_w, i32_w]
               rfl
              refine take_ (i := 1) (N := some 40) (v := ?_) (a' := ?_) #[o,o,o,o,z,z,o,z,o,o,z,z,z,z,z,z,z,z,z] rfl rfl (take_ofW HT_.out HW_.out (by kernel_rfl)) (fun _ _ _ h => h) (Or.inl ⟨by rfl, ?_⟩) hHeld ?_ ?_
              rotate_left
              ·rintro w' ⟨s0, s1, s2, s3, s4, s5, s6, s7, s8, s9, s10⟩
               go_simp
               with_reducible rfl
              rotate_left
              ·simp only [Act.put, qa, qb, qc, i64_w, i32_w]
               rfl
              refine take_ (i := 4) (N := some 43) (v := ?_) (a' := ?_) #[o,o,o,o,o,z,o,z,o,o,z,z,z,z,z,z,z,z,z] rfl rfl (take_ofW HT_.out HW_.out (by kernel_rfl)) (fun _ _ _ h => h) (Or.inl ⟨by rfl, ?_⟩) hHeld ?_ ?_
              rotate_left
              ·rintro w' ⟨s0, s1, s2, s3, s4, s5, s6, s7, s8, s9, s10⟩
               go_simp
               with_reducible rfl
              rotate_left
              ·simp only [Act.put, qa, qb, qc, i64_w, i32_w]
               rfl
              refine pure_ (i := 5) (N := some 44) (v := ?_) (a' := ?_) #[o,o,o,o,o,o,o,z,o,o,z,z,z,z,z,z,z,z,z] rfl rfl (any_of HT_.out (by kernel_rfl)) (fun _ _ _ h => h) (Or.inl ⟨by rfl, ?_⟩) ?_ ?_
              rotate_left
              ·intro w'
               go_simp
               with_reducible rfl
              rotate_left
              ·simp only [Act.put, qa, qb, qc, i64_w, i32_w]
               rfl
              refine take_ (i := 7) (N := some 46) (v := ?_) (a' := ?_) #[o,o,o,o,o,o,o,o,o,o,z,z,z,z,z,z,z,z,z] rfl rfl (take_ofW HT_.out HW_.out (by kernel_rfl)) (fun _ _ _ h => h) (Or.inl ⟨by rfl, ?_⟩) hHeld ?_ ?_
              rotate_left
              ·rintro w' ⟨s0, s1, s2, s3, s4, s5, s6, s7, s8, s9, s10⟩
               go_simp
               with_reducible rfl
              rotate_left
              ·simp only [Act.put, qa, qb, qc, i64_w, i32_w]
               rfl
              refine take_ (i := 10) (N := some 49) (v := ?_) (a' := ?_) #[o,o,o,o,o,o,o,o,o,o,o,z,z,z,z,z,z,z,z] rfl rfl (take_ofW HT_.out HW_.out (by kernel_rfl)) (fun _ _ _ h => h) (Or.inl ⟨by rfl, ?_⟩) hHeld ?_ ?_
              rotate_left
              ·rintro w' ⟨s0, s1, s2, s3, s4, s5, s6, s7, s8, s9, s10⟩
               go_simp
               with_reducible rfl
              rotate_left
              ·simp only [Act.put, qa, qb, qc, i64_w, i32_w]
               rfl
              refine pure_ (i := 11) (N := some 50) (v := ?_) (a' := ?_) #[o,o,o,o,o,o,o,o,o,o,o,o,z,z,z,z,z,z,z] rfl rfl (any_of HT_.out (by kernel_rfl)) (fun _ _ _ h => h) (Or.inl ⟨by rfl, ?_⟩) ?_ ?_
              rotate_left
              ·intro w'
               go_simp
               with_reducible rfl
              rotate_left
              ·simp only [Act.put, qa, qb, qc, i64_w, i32_w]
               rfl
              refine pure_ (i := 12) (N := some 51) (v := ?_) (a' := ?_) #[o,o,o,o,o,o,o,o,o,o,o,o,o,z,z,z,z,z,z] rfl rfl (any_of HT_.out (by kernel_rfl)) (fun _ _ _ h => h) (Or.inl ⟨by rfl, ?_⟩) ?_ ?_
              rotate_left
              ·intro w'
               go_simp
               with_reducible rfl
              rotate_left
              ·simp only [Act.put, qa, qb, qc, i64_w, i32_w]
               rfl
              refine take_ (i := 13) (N := some 52) (v := ?_) (a' := ?_) #[o,o,o,o,o,o,o,o,o,o,o,o,o,o,z,z,z,z,z] rfl rfl (take_ofW HT_.out HW_.out (by kernel_rfl)) (fun _ _ _ h => h) (Or.inl ⟨by rfl, ?_⟩) hHeld ?_ ?_
              rotate_left
              ·rintro w' ⟨s0, s1, s2, s3, s4, s5, s6, s7, s8, s9, s10⟩
               go_simp
               with_reducible rfl
              rotate_left
              ·simp only [Act.put, qa, qb, qc, i64_w, i32_w]
               rfl
              refine take_ (i := 14) (N := some 53) (v := ?_) (a' := ?_) #[o,o,o,o,o,o,o,o,o,o,o,o,o,o,o,z,z,z,z] rfl rfl (take_ofW HT_.out HW_.out (by kernel_rfl)) (fun _ _ _ h => h) (Or.inl ⟨by rfl, ?_⟩) hHeld ?_ ?_
              rotate_left
              ·rintro w' ⟨s0, s1, s2, s3, s4, s5, s6, s7, s8, s9, s10⟩
               go_simp
               with_reducible rfl
              rotate_left
              ·simp only [Act.put, qa, qb, qc, i64_w, i32_w]
               rfl
              refine one_ (i := 15) (N := some 54) #[o,o,o,o,o,o,o,o,o,o,o,o,o,o,o,o,z,z,z] rfl rfl (one_of HT_.out (by kernel_rfl)) (by decide) (fun K hK => ?_)
              refine value_ (w1 := ?_) (v := ?_) (by rfl) rfl ?_ ?_
              rotate_left 2
              ·go_simp
               constructor
               ·rfl
               ·rfl
              refine hK.out _ _ ⟨(blk_cell (blk_alloc BK299.out _) 0).trans rfl, (blk_cell (blk_alloc BK299.out _) 1).trans rfl, (blk_cell (blk_alloc BK308.out _) 0).trans rfl, (blk_cell (blk_alloc BK308.out _) 1).trans rfl, (blk_cell (blk_alloc BK308.out _) 2).trans rfl, (blk_cell (blk_alloc BK308.out _) 3).trans rfl, (blk_cell (blk_alloc BK308.out _) 4).trans rfl, (blk_cell (blk_alloc BK308.out _) 5).trans rfl, (blk_cell (blk_alloc BK308.out _) 6).trans rfl, (blk_cell (blk_alloc BK308.out _) 7).trans rfl, (World.cell?_alloc_lt _ _ _ (World.block_lt_of_cell? _ _ (hHeld.2.2.2.2.2.2.2.2.2.2))).trans (hHeld.2.2.2.2.2.2.2.2.2.2)⟩ (fun hHeld => ?_)
              clear hK K
              refine norm_ (a' := ?_) ?_ ?_
              rotate_left
              ·show Act.put _ (some 54) _ = _
               simp only [Act.put, qa, qb, qc, i64_w, i32_w]
               rfl
              refine one_ (i := 16) (N := some 55) #[o,o,o,o,o,o,o,o,o,o,o,o,o,o,o,o,o,z,z] rfl rfl (one_of HT_.out (by kernel_rfl)) (by decide) (fun K hK => ?_)
              refine Kd.R_append_step k37 (w0 := w) w.heap.size (by rfl) (.tmp 52) (.tmp 54) 24 37 (.agg #[(.int .i64 0), (.int .i64 0), (.int .i64 0), (.int .i64 0), (.int .i64 0), (.int .i64 0), (.int .i64 0), (.int .i64 0)]) 64 rfl Try.underlying24 info37 rfl (by decide) (by omega) (.slice A312_0 (rd_L7 x300001_2 (ji40)).length c312_0) (rd_L7 x300001_2 (ji40)) (⟨(rd_T37 t304 x25_2).f0, (rd_T37 t304 x25_2).f1, (⟨(rd_T37 t304 x25_2).f2.f0, (rd_T37 t304 x25_2).f2.f1⟩ : S35), (rd_T37 t304 x25_2).f3, (rd_T37 t304 x25_2).f4, (⟨(rd_T37 t304 x25_2).f5.f0, (rd_T37 t304 x25_2).f5.f1⟩ : S26)⟩ : S37) [.int .i64 ((rd_T37 t304 x25_2).f0), .int .i64 ((rd_T37 t304 x25_2).f1), .int .i64 ((rd_T37 t304 x25_2).f2.f0), .int .i64 ((rd_T37 t304 x25_2).f2.f1), .int .i64 ((rd_T37 t304 x25_2).f3), .int .i64 ((rd_T37 t304 x25_2).f4), .int .i64 ((rd_T37 t304 x25_2).f5.f0), .int .i64 ((rd_T37 t304 x25_2).f5.f1)] (fun k_ => oki52 k_ ∨ ((fun k_ => some k_ ≠ (.slice (some ad307) t304.length co25 : Value).ownBlock ∧ some k_ ≠ (u300000 : Value).ownBlock ∧ k_ ≠ gb308)) k_ ∧ w50.heap.size ≤ k_) (fun _ => False) rfl rfl ?aP (fun _ hk => hk.elim) ?aF ?aO ?aB ?aS ?aL ?_
              (case aP => exact k37_mkM _ _ _ (⟨(rd_T37 t304 x25_2).f0, (rd_T37 t304 x25_2).f1, (⟨(rd_T37 t304 x25_2).f2.f0, (rd_T37 t304 x25_2).f2.f1⟩ : S35), (rd_T37 t304 x25_2).f3, (rd_T37 t304 x25_2).f4, (⟨(rd_T37 t304 x25_2).f5.f0, (rd_T37 t304 x25_2).f5.f1⟩ : S26)⟩ : S37))
              (case aB => exact (sB HB.out))
              (case aF => exact (fun k_ hk => .inr ⟨⟨Kd.fresh' (Kd.R_lt (rB HO_23.out)) k_ hk, Kd.fresh' (Kd.R_lt (rB HO_300000.out)) k_ hk, Kd.freshB (g := gb308) (o := .cells #[.int .i64 ((rd_T37 t304 x25_2).f0), .int .i64 ((rd_T37 t304 x25_2).f1), .int .i64 ((rd_T37 t304 x25_2).f2.f0), .int .i64 ((rd_T37 t304 x25_2).f2.f1), .int .i64 ((rd_T37 t304 x25_2).f3), .int .i64 ((rd_T37 t304 x25_2).f4), .int .i64 ((rd_T37 t304 x25_2).f5.f0), .int .i64 ((rd_T37 t304 x25_2).f5.f1)] 37 (0, 0)) (bB BK308.out) k_ hk⟩, hk⟩))
              (case aO => exact (by (with_reducible repeat (first | apply Kd.R_alloc | apply Kd.R_drewN | apply Kd.R_drew)); exact Kd.R_mono UU52.out (fun _ hk => .inl hk)))
              (case aS => exact (below_size (sB HB.out)))
              (case aL => have := LMc43.out; omega)
              intro v314 w53 ho hb hg hat
              (first | have HS10_ := Go.Proofs.YtepndcpncndjdaaW.PrintWords.cell_grown hg (hHeld.2.2.2.2.2.2.2.2.2.2) (by first | (rw [add_block]; exact (fun e_ => ((HL312_0.out.1 _ e_.symm).2) rfl)) | (show some (Addr.add _ _).block ≠ _; rw [add_block]; exact (fun e_ => ((HL312_0.out.1 _ e_.symm).2) rfl)) | exact (fun e_ => ((HL312_0.out.1 _ e_.symm).2) rfl)) | have HS10_ := Go.Proofs.YtepndcpncndjdaaW.PrintWords.cell_grown hg (cell_unalloc (hHeld.2.2.2.2.2.2.2.2.2.2) (by first | (rw [add_block]; exact Kd.S_lt HO_300001.out _ rfl) | (show (Addr.add _ _).block < _; rw [add_block]; exact Kd.S_lt HO_300001.out _ rfl) | exact Kd.S_lt HO_300001.out _ rfl)) (by first | (rw [add_block]; exact (fun e_ => ((HL312_0.out.1 _ e_.symm).2) rfl)) | (show some (Addr.add _ _).block ≠ _; rw [add_block]; exact (fun e_ => ((HL312_0.out.1 _ e_.symm).2) rfl)) | exact (fun e_ => ((HL312_0.out.1 _ e_.symm).2) rfl)))
              rw [← Ny313.out] at ho
              have n0_ := am (Kd.R_grown2 (rB HO_23.out) rfl hg (fun k_ e_ => (HL312_0.out.1 k_ e_).1.1))
              have n1_ := am (Kd.R_grown2 (rB HO_300000.out) rfl hg (fun k_ e_ => (HL312_0.out.1 k_ e_).1.2.1))
              have n2_ := am (blk_grown (g := gb292) (o := .cells #[.slice none 0 0, .slice none 0 0] 33 (0, 0)) (bB BK292.out) hg (Kd.R_ne HL312_0.out BK292.out (by decide)))
              have n3_ := am (blk_grown (g := gb299) (o := .cells #[u300000, .slice (some ⟨go52, 0, none⟩) x300001_2.length co51] 33 (0, 0)) (bB BK299.out) hg (Kd.R_ne HL312_0.out BK299.out (by decide)))
              have n4_ := am (blk_grown (g := gb308) (o := .cells #[.int .i64 ((rd_T37 t304 x25_2).f0), .int .i64 ((rd_T37 t304 x25_2).f1), .int .i64 ((rd_T37 t304 x25_2).f2.f0), .int .i64 ((rd_T37 t304 x25_2).f2.f1), .int .i64 ((rd_T37 t304 x25_2).f3), .int .i64 ((rd_T37 t304 x25_2).f4), .int .i64 ((rd_T37 t304 x25_2).f5.f0), .int .i64 ((rd_T37 t304 x25_2).f5.f1)] 37 (0, 0)) (bB BK308.out) hg (Kd.R_away HL312_0.out (fun _ hk => hk.1.2.2)))
              have n5_ := am (hb)
              have n6_ := am (Kd.H_grown (Kd.H_widen (by repeat (first | exact HH52.out | refine Kd.H_alloc ?_ _ | refine Kd.H_drewN ?_ _ | refine Kd.H_drew ?_))) hg (fun k_ e_ => .inl (UU52.out.1 k_ e_)))
              have n7_ := am (ho)
              clear HO_23
              clear HO_300000
              clear BK292
              clear BK299
              clear BK308
              clear HB
              clear HH52
              clear HO_300001
              clear UU52
              clear HL312_0
              have HO_23 := n0_
              have HO_300000 := n1_
              have BK292 := n2_
              have BK299 := n3_
              have BK308 := n4_
              have HB := n5_
              have HH52 := n6_
              have HO315 := n7_
              clear n0_ n1_ n2_ n3_ n4_ n5_ n6_ n7_
              clear ho hb hg hat
              have p44 : 0 ≤ ((ji40) : Int) := of_decide_eq_true (by first | (with_reducible assumption) | assumption)
              have q44 : ((ji40) : Int) < ((x300001_2.length : Int) : Int) := of_decide_eq_true (by first | (with_reducible assumption) | assumption)
              replace p44 := eq_true p44
              replace q44 := eq_true q44
              obtain ⟨Ao56, co56, eo56⟩ := Kd.R_slice HO315.out
              (first | subst eo56 | (injection eo56 with f1_ f2_ f3_; have f4_ := f1_.symm; have f5_ := f3_.symm; clear f1_ f2_ f3_; subst f4_; subst f5_))
              obtain ⟨_, _, hraw54, _, _, hcc54, _⟩ := Kd.H_raw HH52.out (of_decide_eq_true (by first | (with_reducible assumption) | assumption)) (by have h_ : ((ji40) : Int) < ((x300001_2.length : Int) : Int) := of_decide_eq_true (by first | (with_reducible assumption) | assumption); first | exact h_ | (have e_ := (HN52.out); omega) | simpa using h_)
              obtain ⟨_, hfr54⟩ := Kd.H_at HH52.out (of_decide_eq_true (by first | (with_reducible assumption) | assumption)) (by have h_ : ((ji40) : Int) < ((x300001_2.length : Int) : Int) := of_decide_eq_true (by first | (with_reducible assumption) | assumption); first | exact h_ | (have e_ := (HN52.out); omega) | simpa using h_)
              have hx54_0 := hcc54 0 _ rfl
              have hf54_0 := hfr54 0
              (try simp only [Nat.add_zero] at hx54_0 hf54_0)
              (try rw [show ((Kd.slice 37 k37)).sz = 1 from rfl, Nat.mul_one] at hx54_0)
              (try rw [show ((Kd.slice 37 k37)).sz = 1 from rfl, Nat.mul_one] at hf54_0)
              have HP54 := Kd.S_seg0 HH52.out (of_decide_eq_true (by first | (with_reducible assumption) | assumption)) (by have h_ : ((ji40) : Int) < ((x300001_2.length : Int) : Int) := of_decide_eq_true (by first | (with_reducible assumption) | assumption); first | exact h_ | (have e_ := (HN52.out); omega) | simpa using h_) (seg := [.slice Ao56 y313.length co56]) (j := 0) (show 1 ≤ 1 from by decide) (x' := y313) (Kd.M_row HO315.out) (fun _ hk => hk)
              (try simp only [show ((Kd.slice 37 k37)).sz = 1 from rfl, Nat.mul_one, Nat.add_zero] at HP54)
              clear hcc54 hfr54
              have HNB292_go52 := am (show gb292 ≠ go52 from by have h_ := Kd.R_ne hraw54 BK292.out (by decide); intro e_; exact h_ (by rw [e_]; rfl))
              have HNB299_go52 := am (show gb299 ≠ go52 from by have h_ := Kd.R_ne hraw54 BK299.out (by decide); intro e_; exact h_ (by rw [e_]; rfl))
              have HNB308_go52 := am (show gb308 ≠ go52 from by have h_ := Kd.R_ne hraw54 BK308.out (by decide); intro e_; exact h_ (by rw [e_]; rfl))
              have HS54 := HP54.1
              rw [← Ny316.out] at HS54
              have HQ54 := Aside0.mk HS54
              obtain ⟨_, hgg54⟩ := Kd.R_typed hraw54 go52 rfl
              have GG54_ := Aside0.mk hgg54
              clear HP54 HS54 hgg54
              refine hK.out _ _ ⟨(blk_cell BK299.out 0).trans rfl, (blk_cell BK299.out 1).trans rfl, (blk_cell BK308.out 0).trans rfl, (blk_cell BK308.out 1).trans rfl, (blk_cell BK308.out 2).trans rfl, (blk_cell BK308.out 3).trans rfl, (blk_cell BK308.out 4).trans rfl, (blk_cell BK308.out 5).trans rfl, (blk_cell BK308.out 6).trans rfl, (blk_cell BK308.out 7).trans rfl, HS10_⟩ (fun hHeld => ?_)
              clear hK K
              refine norm_ (a' := ?_) ?_ ?_
              rotate_left
              ·show Act.put _ (some 55) _ = _
               simp only [Act.put, qa, qb, qc, i64_w, i32_w]
               rfl
              refine pure_ (i := 17) (N := some 56) (v := ?_) (a' := ?_) #[o,o,o,o,o,o,o,o,o,o,o,o,o,o,o,o,o,o,z] rfl rfl (any_of HT_.out (by kernel_rfl)) (fun _ _ _ h => h) (Or.inl ⟨by rfl, ?_⟩) ?_ ?_
              rotate_left
              ·intro w'
               go_simp
               with_reducible rfl
              rotate_left
              ·simp only [Act.put, qa, qb, qc, i64_w, i32_w]
               rfl
              refine last_ (i := 18) (N := none) #[o,o,o,o,o,o,o,o,o,o,o,o,o,o,o,o,o,o,o] rfl rfl (one_of HT_.out (by kernel_rfl)) (by decide) (fun K hK => ?_)
              refine skip_ (w1 := ?_) (by rfl) rfl ?_ ?_
              rotate_left
              ·go_simp
               rfl
              refine hK.out _ _ ?_
              clear hK K
              refine done_ (done_of HT_.out (by kernel_rfl)) ?_
              try go_wp2
              go_roundg k2
              case measure => have := HK1.out; have := HK2.out; omega
              case rel => exact ⟨(wrap64 (x25_2 + 1)), (x300000_2), (y316), (u300000), (.slice (some ⟨go52, 0, none⟩) x300001_2.length co51), (by first | rfl | (simp; done) | (simp [*]; done)), H', ⟨by have := HK1.out; have := HK2.out; omega⟩, ⟨by (with_reducible repeat (first | apply Kd.R_alloc | apply Kd.R_drewN | apply Kd.R_drew)); exact Kd.R_mono (Kd.R_far (p := ⟨go52, ((ji40) : Int).toNat, none⟩) (Kd.R_types HO_23.out GG54_.out (by decide)) (fun _ hk => hk.2) (.slice Ao56 y313.length co56)) (fun _ hk => hk.1.1)⟩, ⟨by (with_reducible repeat (first | apply Kd.R_alloc | apply Kd.R_drewN | apply Kd.R_drew)); exact Kd.R_mono (Kd.R_far (p := ⟨go52, ((ji40) : Int).toNat, none⟩) (Kd.R_types HO_300000.out GG54_.out (by decide)) (fun _ hk => hk.2) (.slice Ao56 y313.length co56)) (fun _ hk => hk.1.1)⟩, ⟨by (with_reducible repeat (first | apply Kd.S_alloc | apply Kd.S_drewN | apply Kd.S_drew)); exact Kd.S_mono HQ54.out (fun _ hk => ⟨hk.1, hk.2.1⟩)⟩, ⟨by refine bB ?_; refine blk_far ?_ HNB292_go52.out _; refine bB ?_; exact BK292.out⟩, ⟨by refine bB ?_; refine blk_far ?_ HNB299_go52.out _; refine bB ?_; exact BK299.out⟩, ⟨by repeat (first | (with_reducible first | exact HB.out | apply below_alloc | apply pw_below_drewN | apply below_drew1 | refine below_set ?_ GB52.out | refine below_set ?_ GE292.out | refine below_set ?_ GE299.out | refine below_set ?_ GE308.out) | exact HB.out)⟩⟩
             ·rw [if_neg c43] at H
              exact absurd H (by simp)
            ·rw [if_neg c42] at H
             exact absurd H (by simp)
           ·rw [if_neg c41] at H
            exact absurd H (by simp)
         ·rw [if_neg c28] at H
          exact absurd H (by simp)
        ·rw [if_neg c27] at H
         exact absurd H (by simp)
       ·rw [if_neg c26] at H
        have c26b0 : decide (x25_2 < (t304.length : Int)) = false := decide_eq_false c26
        clear c26
        simp only [Option.some.injEq, Prod.mk.injEq] at H
        obtain ⟨rfl, rfl⟩ := H
        have hnb57 := NB299_292.out
        have hnc57 := NB292_299.out
        have hcz58_0 : wr.cell? ⟨gb299, 0, none⟩ = some (u300000) := (blk_cell BK299.out 0).trans rfl
        have hcz58_1 : wr.cell? ⟨gb299, 1, none⟩ = some (u300001) := (blk_cell BK299.out 1).trans rfl
        have hfz58_0 := blk_frozen BK299.out 0
        have hfz58_1 := blk_frozen BK299.out 1
        obtain ⟨Ao59, co59, eo59⟩ := Kd.R_slice HO_300000.out
        subst eo59
        have hcz60_0 : wr.cell? ⟨gb292, 0, none⟩ = some (.slice none 0 0) := (blk_cell BK292.out 0).trans rfl
        have hcz60_1 : wr.cell? ⟨gb292, 1, none⟩ = some (.slice none 0 0) := (blk_cell BK292.out 1).trans rfl
        have hfz60_0 := blk_frozen BK292.out 0
        have hfz60_1 := blk_frozen BK292.out 1
        obtain ⟨Ao61, co61, eo61⟩ := Kd.S_slice HO_300001.out
        subst eo61
        go_wp2
        refine bodyPost_ret (results_cell_row rfl _ _ gb292 33 #[.slice Ao59 x300000_2.length co59, .slice Ao61 x300001_2.length co61] (0, 0) _ rfl (by refine bB ?_; refine blk_put (cs := #[.slice Ao59 x300000_2.length co59, .slice none 0 0]) ?_ 1 _ rfl; refine bB ?_; refine blk_put (cs := #[.slice none 0 0, .slice none 0 0]) ?_ 0 _ rfl; refine bB ?_; exact BK292.out) Try.underlying33 rfl (by kernel_rfl)) rfl ?_
        exact ⟨_, _, by first | rfl | (simp [errW_none, errW_some] <;> rfl) | (simp [*, errW_none, errW_some] <;> rfl), by (with_reducible repeat (first | apply Kd.R_alloc | apply Kd.R_drewN | apply Kd.R_drew)); exact Kd.R_mono (Kd.R_far (p := ⟨gb292, 1, none⟩) (Kd.R_far (p := ⟨gb292, 0, none⟩) (Kd.R_types HO_300000.out BK292.out (by decide)) (fun _ hk => hk.2) (.slice Ao59 x300000_2.length co59)) (fun _ hk => hk.2) (.slice Ao61 x300001_2.length co61)) (fun _ hk => trivial), by (with_reducible repeat (first | apply Kd.S_alloc | apply Kd.S_drewN | apply Kd.S_drew)); exact Kd.S_mono (Kd.S_far (p := ⟨gb292, 1, none⟩) (Kd.S_far (p := ⟨gb292, 0, none⟩) (Kd.S_types HO_300001.out BK292.out (by decide)) (fun _ hk => hk.2) (.slice Ao59 x300000_2.length co59)) (fun _ hk => hk.2) (.slice Ao61 x300001_2.length co61)) (fun _ hk => hk.1.2), sB HB.out⟩
 ·rw [if_neg c2] at H
  exact absurd H (by simp)

end Go.Proofs.Ytepndcpncndjdaa.QS
