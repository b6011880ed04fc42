/- Go functions as Lean functions, each with its walk; printed by a program of this session (a scratch copy of print.py that follows nested field addresses and tells a law for the answer true). -/
import Derived.Test.YtepndcpncndjdaaQSx0
import Derived.Test.YtepndcpncndjdaaQSx60
import Derived.Test.YtepndcpncndjdaaQSx64
namespace Go.Proofs.Ytepndcpncndjdaa.QS
open Go.RowKit Go.Proofs.YtepndcpncndjdaaW.PrintWords Go.Proofs.YtepndcpncndjdaaW.PrintLast Go.Proofs.YtepndcpncndjdaaW.PrintMore Go.Proofs.Ytepndcpncndjdaa.Short
attribute [local go_sem] max2_int min2_int max_two min_two max_three min_three max_four min_four   -- for this text's walks alone
set_option linter.unusedVariables false
set_option linter.unusedSimpArgs false

/-! ### impl_FastRule: function 10 -/
mutual
def impl_FastRule.j0 : Nat → Int → Int → Bool → List (S37) → List (List (S37)) → Int → Int → Int → Option (Int × Int × Int × Int × Int × Int × Int × Int × Bool)
 | 0, _, _, _, _, _, _, _, _ => none
 | k + 1, x6, x8, x25, x582000, x582001, x583000, x583001, x583002 => if x25 = true then (if 0 ≤ x8 then (if x8 < (x582001.length : Int) then ((impl_firstOf.f k (rd_L7 x582001 x8) x583000 x583001 x583002).bind fun t586 => (if t586 ≥ 0 then (if x6 < 0 then (impl_FastRule.j1 k x6 t586 x8 true x582000 x582001) else (if 0 ≤ t586 then (if t586 < ((rd_L7 x582001 x8).length : Int) then (if 0 ≤ x6 then (if x6 < (x582000.length : Int) then ((impl_IsBefore.f k ((rd_T37 (rd_L7 x582001 x8) t586).f0) ((rd_T37 (rd_L7 x582001 x8) t586).f1) ((rd_T37 (rd_L7 x582001 x8) t586).f2.f0) ((rd_T37 (rd_L7 x582001 x8) t586).f2.f1) ((rd_T37 (rd_L7 x582001 x8) t586).f3) ((rd_T37 (rd_L7 x582001 x8) t586).f4) ((rd_T37 (rd_L7 x582001 x8) t586).f5.f0) ((rd_T37 (rd_L7 x582001 x8) t586).f5.f1) ((rd_T37 x582000 x6).f0) ((rd_T37 x582000 x6).f1) ((rd_T37 x582000 x6).f2.f0) ((rd_T37 x582000 x6).f2.f1) ((rd_T37 x582000 x6).f3) ((rd_T37 x582000 x6).f4) ((rd_T37 x582000 x6).f5.f0) ((rd_T37 x582000 x6).f5.f1)).bind fun t590 => (impl_FastRule.j1 k x6 t586 x8 t590 x582000 x582001)) else (none)) else (none)) else (none)) else (none))) else (impl_FastRule.j1 k x6 t586 x8 false x582000 x582001))) else (none)) else (none)) else (if x6 < 0 then (some (0, 0, 0, 0, 0, 0, 0, 0, false)) else (if 0 ≤ x6 then (if x6 < (x582000.length : Int) then (some ((rd_T37 x582000 x6).f0, (rd_T37 x582000 x6).f1, (rd_T37 x582000 x6).f2.f0, (rd_T37 x582000 x6).f2.f1, (rd_T37 x582000 x6).f3, (rd_T37 x582000 x6).f4, (rd_T37 x582000 x6).f5.f0, (rd_T37 x582000 x6).f5.f1, true)) else (none)) else (none)))
def impl_FastRule.j1 : Nat → Int → Int → Int → Bool → List (S37) → List (List (S37)) → Option (Int × Int × Int × Int × Int × Int × Int × Int × Bool)
 | 0, _, _, _, _, _, _ => none
 | k + 1, x6, x7, x8, x54, x582000, x582001 => if x54 = true then (if 0 ≤ x8 then (if x8 < (x582001.length : Int) then (if 0 ≤ x7 then (if x7 < ((rd_L7 x582001 x8).length : Int) then (some ((rd_T37 (rd_L7 x582001 x8) x7).f0, (rd_T37 (rd_L7 x582001 x8) x7).f1, (rd_T37 (rd_L7 x582001 x8) x7).f2.f0, (rd_T37 (rd_L7 x582001 x8) x7).f2.f1, (rd_T37 (rd_L7 x582001 x8) x7).f3, (rd_T37 (rd_L7 x582001 x8) x7).f4, (rd_T37 (rd_L7 x582001 x8) x7).f5.f0, (rd_T37 (rd_L7 x582001 x8) x7).f5.f1, true)) else (none)) else (none)) else (none)) else (none)) else (if x6 < 0 then (some (0, 0, 0, 0, 0, 0, 0, 0, false)) else (if 0 ≤ x6 then (if x6 < (x582000.length : Int) then (some ((rd_T37 x582000 x6).f0, (rd_T37 x582000 x6).f1, (rd_T37 x582000 x6).f2.f0, (rd_T37 x582000 x6).f2.f1, (rd_T37 x582000 x6).f3, (rd_T37 x582000 x6).f4, (rd_T37 x582000 x6).f5.f0, (rd_T37 x582000 x6).f5.f1, true)) else (none)) else (none)))
end
def impl_FastRule.f (k : Nat) (l0_0 : List (S37)) (l0_1 : List (List (S37))) (a1_0 : Int) (a1_1 : Int) (a1_2 : Int) : Option (Int × Int × Int × Int × Int × Int × Int × Int × Bool) := (impl_firstOf.f k l0_0 a1_0 a1_1 a1_2).bind fun t584 => (if (wrap64 (a1_0 - 1)) ≥ 0 then (impl_FastRule.j0 k t584 (wrap64 (a1_0 - 1)) (decide ((wrap64 (a1_0 - 1)) < (l0_1.length : Int))) l0_0 l0_1 a1_0 a1_1 a1_2) else (impl_FastRule.j0 k t584 (wrap64 (a1_0 - 1)) false l0_0 l0_1 a1_0 a1_1 a1_2))
theorem impl_FastRule.mono_l : ∀ k, (∀ y0 y1 y2 y3 y4 y5 y6 y7, LeO (impl_FastRule.j0 k y0 y1 y2 y3 y4 y5 y6 y7) (impl_FastRule.j0 (k + 1) y0 y1 y2 y3 y4 y5 y6 y7)) ∧ (∀ y0 y1 y2 y3 y4 y5, LeO (impl_FastRule.j1 k y0 y1 y2 y3 y4 y5) (impl_FastRule.j1 (k + 1) y0 y1 y2 y3 y4 y5))
 | 0 => ⟨fun _ _ _ _ _ _ _ _ r h => by simp [impl_FastRule.j0] at h, fun _ _ _ _ _ _ r h => by simp [impl_FastRule.j1] at h⟩
 | k + 1 => by
  obtain ⟨ih0, ih1⟩ := impl_FastRule.mono_l k
  refine ⟨?_, ?_⟩
  ·intro y0 y1 y2 y3 y4 y5 y6 y7
   unfold impl_FastRule.j0
   repeat' first
   | (with_reducible exact ih0 _ _ _ _ _ _ _ _)
   | (with_reducible exact ih1 _ _ _ _ _ _)
   | (with_reducible exact impl_IsBefore.mono _ _ _ _ _ _ _ _ _ _ _ _ _ _ _ _ _)
   | (with_reducible exact impl_firstOf.mono _ _ _ _ _)
   | (with_reducible exact LeO.refl _)
   | (with_reducible exact LeO.none _)
   | (with_reducible refine LeO.ite ?_ ?_)
   | (with_reducible refine LeO.bind ?_ (fun _ => ?_))
   | exact ih0 _ _ _ _ _ _ _ _
   | exact ih1 _ _ _ _ _ _
   | exact impl_IsBefore.mono _ _ _ _ _ _ _ _ _ _ _ _ _ _ _ _ _
   | exact impl_firstOf.mono _ _ _ _ _
   | exact LeO.none _
   | refine LeO.ite ?_ ?_
   | refine LeO.bind ?_ (fun _ => ?_)
  ·intro y0 y1 y2 y3 y4 y5
   unfold impl_FastRule.j1
   repeat' first
   | (with_reducible exact ih0 _ _ _ _ _ _ _ _)
   | (with_reducible exact ih1 _ _ _ _ _ _)
   | (with_reducible exact impl_IsBefore.mono _ _ _ _ _ _ _ _ _ _ _ _ _ _ _ _ _)
   | (with_reducible exact impl_firstOf.mono _ _ _ _ _)
   | (with_reducible exact LeO.refl _)
   | (with_reducible exact LeO.none _)
   | (with_reducible refine LeO.ite ?_ ?_)
   | (with_reducible refine LeO.bind ?_ (fun _ => ?_))
   | exact ih0 _ _ _ _ _ _ _ _
   | exact ih1 _ _ _ _ _ _
   | exact impl_IsBefore.mono _ _ _ _ _ _ _ _ _ _ _ _ _ _ _ _ _
   | exact impl_firstOf.mono _ _ _ _ _
   | exact LeO.none _
   | refine LeO.ite ?_ ?_
   | refine LeO.bind ?_ (fun _ => ?_)
theorem impl_FastRule.mono : ∀ a0 a1 a2 a3 a4 k, LeO (impl_FastRule.f k a0 a1 a2 a3 a4) (impl_FastRule.f (k + 1) a0 a1 a2 a3 a4) := by
 intro a0 a1 a2 a3 a4 k
 obtain ⟨ih0, ih1⟩ := impl_FastRule.mono_l k
 unfold impl_FastRule.f
 repeat' first
   | (with_reducible exact ih0 _ _ _ _ _ _ _ _)
   | (with_reducible exact ih1 _ _ _ _ _ _)
   | (with_reducible exact impl_IsBefore.mono _ _ _ _ _ _ _ _ _ _ _ _ _ _ _ _ _)
   | (with_reducible exact impl_firstOf.mono _ _ _ _ _)
   | (with_reducible exact LeO.refl _)
   | (with_reducible exact LeO.none _)
   | (with_reducible refine LeO.ite ?_ ?_)
   | (with_reducible refine LeO.bind ?_ (fun _ => ?_))
   | exact ih0 _ _ _ _ _ _ _ _
   | exact ih1 _ _ _ _ _ _
   | exact impl_IsBefore.mono _ _ _ _ _ _ _ _ _ _ _ _ _ _ _ _ _
   | exact impl_firstOf.mono _ _ _ _ _
   | exact LeO.none _
   | refine LeO.ite ?_ ?_
   | refine LeO.bind ?_ (fun _ => ?_)
def impl_FastRule.T5 : Bool × List (List Nat × List Nat) := (true, [([], []), ([0], [0]), ([], []), ([1, 2], [1, 2]), ([3], [3]), ([], []), ([4, 5], [4, 5]), ([6, 6, 0, 1, 2, 3, 4, 5, 6], [6])])
def impl_FastRule.B5 : List Nat := [0, 1, 0, 7, 15, 0, 63, 127]
theorem impl_FastRule.tab5 : rtab .any (opsOf Try.f10 5) = impl_FastRule.T5 := by kernel_rfl
theorem impl_FastRule.bits5 : waitsOk impl_FastRule.T5.2 impl_FastRule.B5 = true := by kernel_rfl
def impl_FastRule.T6 : Bool × List (List Nat × List Nat) := (true, [([], []), ([0], [0]), ([1], [1]), ([2], [2]), ([3, 2], [2, 3]), ([4, 2, 2], [2, 4]), ([5], [5]), ([6, 5], [5, 6]), ([5], [5]), ([7, 8, 5], [5, 7, 8]), ([9, 5], [5, 9]), ([5], [5]), ([10, 11, 5], [5, 10, 11]), ([12, 5], [5, 12]), ([5], [5]), ([14, 5], [5, 14]), ([5], [5]), ([15, 16, 5], [5, 15, 16]), ([17, 5], [5, 17]), ([13, 18, 5, 5], [5, 13, 18]), ([5, 19, 2], [2, 5, 19]), ([2, 20], [2, 20])])
def impl_FastRule.B6 : List Nat := [0, 1, 3, 7, 15, 31, 63, 127, 63, 511, 1023, 63, 4095, 8191, 63, 16447, 63, 114751, 245823, 524287, 1048575, 2097151]
theorem impl_FastRule.tab6 : rtab .any (opsOf Try.f10 6) = impl_FastRule.T6 := by kernel_rfl
theorem impl_FastRule.bits6 : waitsOk impl_FastRule.T6.2 impl_FastRule.B6 = true := by kernel_rfl
set_option maxHeartbeats 8000000 in
set_option maxRecDepth 100000 in
theorem impl_FastRule.calls (k : Nat) (A0_0 : Option Addr) (c0_0 : Nat) (l0_0 : List (S37)) (A0_1 : Option Addr) (c0_1 : Nat) (l0_1 : List (List (S37))) (a1_0 : Int) (a1_1 : Int) (a1_2 : Int) (r1 : Int) (r2 : Int) (r3 : Int) (r4 : Int) (r5 : Int) (r6 : Int) (r7 : Int) (r8 : Int) (r9 : Bool) (w : World) (hr0_0 : Kd.C k37 w A0_0 l0_0.length l0_0) (hc0_0 : l0_0.length ≤ c0_0) (hr0_1 : Kd.C (Kd.slice 37 k37) w A0_1 l0_1.length l0_1) (hc0_1 : l0_1.length ≤ c0_1) (h : impl_FastRule.f k l0_0 l0_1 a1_0 a1_1 a1_2 = some (r1, r2, r3, r4, r5, r6, r7, r8, r9)) :
  Calls Try.prog 10 #[.agg #[.slice A0_0 l0_0.length c0_0, .slice A0_1 l0_1.length c0_1], .agg #[.int .i64 a1_0, .int .i64 a1_1, .int .i64 a1_2]] w fun e w' => e = .returned (.tuple #[.agg #[.int .i64 r1, .int .i64 r2, .int .i64 r3, .int .i64 r4, .int .i64 r5, .int .i64 r6, .int .i64 r7, .int .i64 r8], .bool r9]) ∧ Below w.heap.size w w' := by
 have hu33 := Try.underlying33
 have hu28 := Try.underlying28
 have hu37 := Try.underlying37
 have HR0_0 := Aside0.mk hr0_0
 have HC0_0 := Aside0.mk hc0_0
 clear hr0_0 hc0_0
 have HR0_1 := Aside0.mk hr0_1
 have HC0_1 := Aside0.mk hc0_1
 clear hr0_1 hc0_1
 have HB := am (Below.refl w.heap.size w)
 have H : ((impl_firstOf.f k l0_0 a1_0 a1_1 a1_2).bind fun t584 => (if (wrap64 (a1_0 - 1)) ≥ 0 then (impl_FastRule.j0 k t584 (wrap64 (a1_0 - 1)) (decide ((wrap64 (a1_0 - 1)) < (l0_1.length : Int))) l0_0 l0_1 a1_0 a1_1 a1_2) else (impl_FastRule.j0 k t584 (wrap64 (a1_0 - 1)) false l0_0 l0_1 a1_0 a1_1 a1_2))) = some (r1, r2, r3, r4, r5, r6, r7, r8, r9) := h
 clear h
 replace H := Option.bind_eq_some_iff.mp H
 obtain ⟨t584, A30, H⟩ := H
 replace H : (if (wrap64 (a1_0 - 1)) ≥ 0 then (impl_FastRule.j0 k t584 (wrap64 (a1_0 - 1)) (decide ((wrap64 (a1_0 - 1)) < (l0_1.length : Int))) l0_0 l0_1 a1_0 a1_1 a1_2) else (impl_FastRule.j0 k t584 (wrap64 (a1_0 - 1)) false l0_0 l0_1 a1_0 a1_1 a1_2)) = some (r1, r2, r3, r4, r5, r6, r7, r8, r9) := H
 have A3 := Aside0.mk A30
 clear A30
 have HC4 := Aside0.mk H
 clear H
 go_enter Try.func10, Try.ntmps10
 go_upto_region 4 with (first | ((with_reducible refine gate_dst (N := 2) rfl ?_); (try (refine gate_guard (by rfl) ?_; dsimp only)); refine box_event ?hg (N := 2) ?hd (cs := #[.slice A0_0 l0_0.length c0_0, .slice A0_1 l0_1.length c0_1]) (t := 33) ?hr ?_; (case hd => rfl); (case hg => rfl); (case hr => first | (go_simp; done) | (go_simp; rfl)); intro gb581 hg w5 hbox hb; have q_ := hbx_ (sB HB.out) hg hb; have n0_ := q_.1; have n1_ := am (hbox); have n2_ := q_.2; have n3_ := n2_; clear HB; have HB := n0_; have BK581 := n1_; have GW581 := n2_; have GE581 := n3_; clear n0_ n1_ n2_ n3_ hb hbox hg) | ((with_reducible refine gate_dst (N := 3) rfl ?_); (try (refine gate_guard (by rfl) ?_; dsimp only)); refine box_event ?hg (N := 3) ?hd (cs := #[.int .i64 a1_0, .int .i64 a1_1, .int .i64 a1_2]) (t := 28) ?hr ?_; (case hd => rfl); (case hg => rfl); (case hr => first | (go_simp; done) | (go_simp; rfl)); intro gb582 hg w6 hbox hb; have n0_ := am (blk_below (bB BK581.out) hb); have q_ := hbx_ (sB HB.out) hg hb; have n1_ := q_.1; have n2_ := am (hbox); have n3_ := q_.2; have n4_ := n3_; have n5_ := am ((by rw [hg]; exact Nat.ne_of_lt (blk_lt (g := gb581) (o := .cells #[.slice A0_0 l0_0.length c0_0, .slice A0_1 l0_1.length c0_1] 33 (0, 0)) (bB BK581.out)) : gb581 ≠ gb582)); have n6_ := am ((by rw [hg]; exact Nat.ne_of_gt (blk_lt (g := gb581) (o := .cells #[.slice A0_0 l0_0.length c0_0, .slice A0_1 l0_1.length c0_1] 33 (0, 0)) (bB BK581.out)) : gb582 ≠ gb581)); clear BK581; clear HB; have BK581 := n0_; have HB := n1_; have BK582 := n2_; have GW582 := n3_; have GE582 := n4_; have NB581_582 := n5_; have NB582_581 := n6_; clear n0_ n1_ n2_ n3_ n4_ n5_ n6_; clear hb hbox hg) | ((with_reducible refine gate_dst (N := 4) rfl ?_); (try (refine gate_guard (by rfl) ?_; dsimp only)); refine box_event ?hg (N := 4) ?hd (cs := #[.int .i64 0, .int .i64 0, .int .i64 0, .int .i64 0, .int .i64 0, .int .i64 0, .int .i64 0, .int .i64 0]) (t := 37) ?hr ?_; (case hd => rfl); (case hg => rfl); (case hr => first | (go_simp; done) | (go_simp; rfl)); intro gb583 hg w7 hbox hb; have n0_ := am (blk_below (bB BK581.out) hb); have n1_ := am (blk_below (bB BK582.out) hb); have q_ := hbx_ (sB HB.out) hg hb; have n2_ := q_.1; have n3_ := am (hbox); have n4_ := q_.2; have n5_ := n4_; have n6_ := am ((by rw [hg]; exact Nat.ne_of_lt (blk_lt (g := gb581) (o := .cells #[.slice A0_0 l0_0.length c0_0, .slice A0_1 l0_1.length c0_1] 33 (0, 0)) (bB BK581.out)) : gb581 ≠ gb583)); have n7_ := am ((by rw [hg]; exact Nat.ne_of_gt (blk_lt (g := gb581) (o := .cells #[.slice A0_0 l0_0.length c0_0, .slice A0_1 l0_1.length c0_1] 33 (0, 0)) (bB BK581.out)) : gb583 ≠ gb581)); have n8_ := am ((by rw [hg]; exact Nat.ne_of_lt (blk_lt (g := gb582) (o := .cells #[.int .i64 a1_0, .int .i64 a1_1, .int .i64 a1_2] 28 (0, 0)) (bB BK582.out)) : gb582 ≠ gb583)); have n9_ := am ((by rw [hg]; exact Nat.ne_of_gt (blk_lt (g := gb582) (o := .cells #[.int .i64 a1_0, .int .i64 a1_1, .int .i64 a1_2] 28 (0, 0)) (bB BK582.out)) : gb583 ≠ gb582)); clear BK581; clear BK582; clear HB; have BK581 := n0_; have BK582 := n1_; have HB := n2_; have BK583 := n3_; have GW583 := n4_; have GE583 := n5_; have NB581_583 := n6_; have NB583_581 := n7_; have NB582_583 := n8_; have NB583_582 := n9_; clear n0_ n1_ n2_ n3_ n4_ n5_ n6_ n7_ n8_ n9_; clear hb hbox hg; have hnb8 := NB581_582.out; have hnc8 := NB582_581.out; have hnb9 := NB581_583.out; have hnc9 := NB583_581.out; obtain ⟨hcz10_0, hcz10_1, hfz10_0, hfz10_1⟩ := blk2 BK581.out; have hnb11 := NB582_583.out; have hnc11 := NB583_582.out; obtain ⟨hcz12_0, hcz12_1, hcz12_2, hfz12_0, hfz12_1, hfz12_2⟩ := blk3 BK582.out) | ((with_reducible refine gate_callee (f := 39) rfl ?_); refine goesL_ (some 12) rfl rfl Try.func39 (by kernel_rfl) rfl #[.slice A0_0 l0_0.length c0_0, .agg #[.int .i64 a1_0, .int .i64 a1_1, .int .i64 a1_2]] rfl (by (try simp only [List.map_toArray, List.map_cons, List.map_nil]); first | done | rfl | (simp only [List.length_drop, List.length_take]; rfl)) ?_; (with_reducible refine (impl_firstOf.calls k _ _ l0_0 a1_0 a1_1 a1_2 t584 _ ?side1 ?side2 A3.out).mono ?_); (case side1 => exact cB ((Kd.C_below HR0_0.out HB.out))); (case side2 => exact HC0_0.out); rintro e w13 ⟨rfl, hb⟩; refine ⟨_, rfl, ?_⟩; replace BK581 := am (blk_below (bB BK581.out) hb); replace BK582 := am (blk_below (bB BK582.out) hb); replace BK583 := am (blk_below (bB BK583.out) hb); replace HB := am (below_step (sB HB.out) hb); (try clear hb); (try clear hb2); (try clear hk); (try clear hi); obtain ⟨hcz14_0, hcz14_1, hcz14_2, hfz14_0, hfz14_1, hfz14_2⟩ := blk3 BK582.out))
 (try simp only [Act.put, List.setIfInBounds_toArray, List.set_cons_zero, List.set_cons_succ])
 go_cut [25] (fun v25 wc => ∃ (kq : Nat) (x25_3 : Bool), v25 = .bool x25_3 ∧ Aside0 (impl_FastRule.j0 kq t584 (wrap64 (a1_0 - 1)) x25_3 l0_0 l0_1 a1_0 a1_1 a1_2 = some (r1, r2, r3, r4, r5, r6, r7, r8, r9)) ∧ Aside0 (kq ≤ k) ∧ Aside0 (wc.heap[gb581]? = some (.cells #[(.slice A0_0 l0_0.length c0_0), (.slice A0_1 l0_1.length c0_1)] 33 (0, 0))) ∧ Aside0 (wc.heap[gb582]? = some (.cells #[.int .i64 a1_0, .int .i64 a1_1, .int .i64 a1_2] 28 (0, 0))) ∧ Aside0 (wc.heap[gb583]? = some (.cells #[.int .i64 0, .int .i64 0, .int .i64 0, .int .i64 0, .int .i64 0, .int .i64 0, .int .i64 0, .int .i64 0] 37 (0, 0))) ∧ Aside0 (Below w.heap.size w wc))
 case first =>
  have H := HC4.out
  clear HC4
  by_cases c15 : (wrap64 (a1_0 - 1)) ≥ 0
  ·rw [if_pos c15] at H
   have c15b0 : decide (0 ≤ (wrap64 (a1_0 - 1))) = true := decide_eq_true c15
   clear c15
   (first | rw [c15b0] | (simp only [i64_w, i32_w]; rw [c15b0]) | skip)
   have H' := Aside0.mk H
   clear H
   have hnb16 := NB581_582.out
   have hnc16 := NB582_581.out
   have hnb17 := NB581_583.out
   have hnc17 := NB583_581.out
   have hcz18_0 : w13.cell? ⟨gb581, 0, none⟩ = some (.slice A0_0 l0_0.length c0_0) := (blk_cell BK581.out 0).trans rfl
   have hcz18_1 : w13.cell? ⟨gb581, 1, none⟩ = some (.slice A0_1 l0_1.length c0_1) := (blk_cell BK581.out 1).trans rfl
   have hfz18_0 := blk_frozen BK581.out 0
   have hfz18_1 := blk_frozen BK581.out 1
   go_wp2
   go_meet
   case rel => exact ⟨_, (decide ((wrap64 (a1_0 - 1)) < (l0_1.length : Int))), (by first | rfl | (simp; done) | (simp [*]; done)), H', ⟨by first | omega | exact Nat.le_refl _⟩, ⟨bB BK581.out⟩, ⟨bB BK582.out⟩, ⟨bB BK583.out⟩, ⟨sB HB.out⟩⟩
  ·rw [if_neg c15] at H
   have c15b0 : decide (0 ≤ (wrap64 (a1_0 - 1))) = false := decide_eq_false c15
   clear c15
   (first | rw [c15b0] | (simp only [i64_w, i32_w]; rw [c15b0]) | skip)
   have H' := Aside0.mk H
   clear H
   go_wp2
   go_meet
   case rel => exact ⟨_, (false), (by first | rfl | (simp; done) | (simp [*]; done)), H', ⟨by first | omega | exact Nat.le_refl _⟩, ⟨bB BK581.out⟩, ⟨bB BK582.out⟩, ⟨bB BK583.out⟩, ⟨sB HB.out⟩⟩
 case rest =>
  clear HC4
  try clear c1
  try clear p2
  try clear c3
  try clear p6
  try clear c8
  try clear c9
  try clear c10
  try clear c11
  try clear c15
  try clear c15b0
  try clear c16
  try clear c17
  try clear hcz10_0 hcz10_1
  try clear hcz12_0 hcz12_1 hcz12_2
  try clear hcz14_0 hcz14_1 hcz14_2
  try clear hcz18_0 hcz18_1
  try clear hfz10_0 hfz10_1
  try clear hfz12_0 hfz12_1 hfz12_2
  try clear hfz14_0 hfz14_1 hfz14_2
  try clear hfz18_0 hfz18_1
  obtain ⟨kq, x25_3, rfl, HA, HJ3, BK581, BK582, BK583, HB⟩ := hcut
  cases kq with
  | zero => exact absurd HA.out (by simp [impl_FastRule.j0])
  | succ kj3 =>
   have H := HA.out
   clear HA
   simp only [impl_FastRule.j0] at H
   by_cases c19 : x25_3 = true
   ·subst c19
    have H1 : (if 0 ≤ (wrap64 (a1_0 - 1)) then (if (wrap64 (a1_0 - 1)) < (l0_1.length : Int) then ((impl_firstOf.f kj3 (rd_L7 l0_1 (wrap64 (a1_0 - 1))) a1_0 a1_1 a1_2).bind fun t586 => (if t586 ≥ 0 then (if t584 < 0 then (impl_FastRule.j1 kj3 t584 t586 (wrap64 (a1_0 - 1)) true l0_0 l0_1) else (if 0 ≤ t586 then (if t586 < ((rd_L7 l0_1 (wrap64 (a1_0 - 1))).length : Int) then (if 0 ≤ t584 then (if t584 < (l0_0.length : Int) then ((impl_IsBefore.f kj3 ((rd_T37 (rd_L7 l0_1 (wrap64 (a1_0 - 1))) t586).f0) ((rd_T37 (rd_L7 l0_1 (wrap64 (a1_0 - 1))) t586).f1) ((rd_T37 (rd_L7 l0_1 (wrap64 (a1_0 - 1))) t586).f2.f0) ((rd_T37 (rd_L7 l0_1 (wrap64 (a1_0 - 1))) t586).f2.f1) ((rd_T37 (rd_L7 l0_1 (wrap64 (a1_0 - 1))) t586).f3) ((rd_T37 (rd_L7 l0_1 (wrap64 (a1_0 - 1))) t586).f4) ((rd_T37 (rd_L7 l0_1 (wrap64 (a1_0 - 1))) t586).f5.f0) ((rd_T37 (rd_L7 l0_1 (wrap64 (a1_0 - 1))) t586).f5.f1) ((rd_T37 l0_0 t584).f0) ((rd_T37 l0_0 t584).f1) ((rd_T37 l0_0 t584).f2.f0) ((rd_T37 l0_0 t584).f2.f1) ((rd_T37 l0_0 t584).f3) ((rd_T37 l0_0 t584).f4) ((rd_T37 l0_0 t584).f5.f0) ((rd_T37 l0_0 t584).f5.f1)).bind fun t590 => (impl_FastRule.j1 kj3 t584 t586 (wrap64 (a1_0 - 1)) t590 l0_0 l0_1)) else (none)) else (none)) else (none)) else (none))) else (impl_FastRule.j1 kj3 t584 t586 (wrap64 (a1_0 - 1)) false l0_0 l0_1))) else (none)) else (none)) = some (r1, r2, r3, r4, r5, r6, r7, r8, r9) := by rw [if_pos rfl] at H; exact H
    clear H
    have H := H1
    clear H1
    obtain ⟨ji20, hji20⟩ : ∃ j_ : Int, (wrap64 (a1_0 - 1)) = j_ := ⟨_, rfl⟩
    replace H : (if 0 ≤ (ji20) then (if (ji20) < (l0_1.length : Int) then ((impl_firstOf.f kj3 (rd_L7 l0_1 (ji20)) a1_0 a1_1 a1_2).bind fun t586 => (if t586 ≥ 0 then (if t584 < 0 then (impl_FastRule.j1 kj3 t584 t586 (ji20) true l0_0 l0_1) else (if 0 ≤ t586 then (if t586 < ((rd_L7 l0_1 (ji20)).length : Int) then (if 0 ≤ t584 then (if t584 < (l0_0.length : Int) then ((impl_IsBefore.f kj3 ((rd_T37 (rd_L7 l0_1 (ji20)) t586).f0) ((rd_T37 (rd_L7 l0_1 (ji20)) t586).f1) ((rd_T37 (rd_L7 l0_1 (ji20)) t586).f2.f0) ((rd_T37 (rd_L7 l0_1 (ji20)) t586).f2.f1) ((rd_T37 (rd_L7 l0_1 (ji20)) t586).f3) ((rd_T37 (rd_L7 l0_1 (ji20)) t586).f4) ((rd_T37 (rd_L7 l0_1 (ji20)) t586).f5.f0) ((rd_T37 (rd_L7 l0_1 (ji20)) t586).f5.f1) ((rd_T37 l0_0 t584).f0) ((rd_T37 l0_0 t584).f1) ((rd_T37 l0_0 t584).f2.f0) ((rd_T37 l0_0 t584).f2.f1) ((rd_T37 l0_0 t584).f3) ((rd_T37 l0_0 t584).f4) ((rd_T37 l0_0 t584).f5.f0) ((rd_T37 l0_0 t584).f5.f1)).bind fun t590 => (impl_FastRule.j1 kj3 t584 t586 (ji20) t590 l0_0 l0_1)) else (none)) else (none)) else (none)) else (none))) else (impl_FastRule.j1 kj3 t584 t586 (ji20) false l0_0 l0_1))) else (none)) else (none)) = some (r1, r2, r3, r4, r5, r6, r7, r8, r9) := by first | (rw [hji20] at H; exact H) | (simp only [hji20] at H ⊢; exact H)
    have hji20w : (IntKind.i64.wrap (a1_0 - 1)) = ji20 := (i64_w _).trans hji20
    by_cases c21 : 0 ≤ (ji20)
    ·rw [if_pos c21] at H
     have c21b0 : decide (0 ≤ (ji20)) = true := decide_eq_true c21
     clear c21
     by_cases c22 : (ji20) < (l0_1.length : Int)
     ·rw [if_pos c22] at H
      have c22b0 : decide ((ji20) < (l0_1.length : Int)) = true := decide_eq_true c22
      clear c22
      replace H := Option.bind_eq_some_iff.mp H
      obtain ⟨t586, A230, H⟩ := H
      replace H : (if t586 ≥ 0 then (if t584 < 0 then (impl_FastRule.j1 kj3 t584 t586 (ji20) true l0_0 l0_1) else (if 0 ≤ t586 then (if t586 < ((rd_L7 l0_1 (ji20)).length : Int) then (if 0 ≤ t584 then (if t584 < (l0_0.length : Int) then ((impl_IsBefore.f kj3 ((rd_T37 (rd_L7 l0_1 (ji20)) t586).f0) ((rd_T37 (rd_L7 l0_1 (ji20)) t586).f1) ((rd_T37 (rd_L7 l0_1 (ji20)) t586).f2.f0) ((rd_T37 (rd_L7 l0_1 (ji20)) t586).f2.f1) ((rd_T37 (rd_L7 l0_1 (ji20)) t586).f3) ((rd_T37 (rd_L7 l0_1 (ji20)) t586).f4) ((rd_T37 (rd_L7 l0_1 (ji20)) t586).f5.f0) ((rd_T37 (rd_L7 l0_1 (ji20)) t586).f5.f1) ((rd_T37 l0_0 t584).f0) ((rd_T37 l0_0 t584).f1) ((rd_T37 l0_0 t584).f2.f0) ((rd_T37 l0_0 t584).f2.f1) ((rd_T37 l0_0 t584).f3) ((rd_T37 l0_0 t584).f4) ((rd_T37 l0_0 t584).f5.f0) ((rd_T37 l0_0 t584).f5.f1)).bind fun t590 => (impl_FastRule.j1 kj3 t584 t586 (ji20) t590 l0_0 l0_1)) else (none)) else (none)) else (none)) else (none))) else (impl_FastRule.j1 kj3 t584 t586 (ji20) false l0_0 l0_1)) = some (r1, r2, r3, r4, r5, r6, r7, r8, r9) := H
      have A23 := Aside0.mk A230
      clear A230
      have HC24 := Aside0.mk H
      clear H
      try go_wp2
      replace BK581 := am (blk_drew BK581.out)
      replace BK582 := am (blk_drew BK582.out)
      replace BK583 := am (blk_drew BK583.out)
      replace HB := am (below_drew1 HB.out)
      have p585 : 0 ≤ ((ji20) : Int) := of_decide_eq_true (by first | (with_reducible assumption) | assumption)
      have q585 : (ji20) < (l0_1.length : Int) := of_decide_eq_true (by first | (with_reducible assumption) | assumption)
      obtain ⟨ad585, A585_0, c585_0, e585, hx585_0, hl585_0, hi585_0⟩ := at_L7 HR0_1.out (ji20) p585 q585
      have hw585_0 := hx585_0
      cases e585
      replace hx585_0 := hc_ HB hx585_0
      have HR585_0 := Aside0.mk hi585_0
      have HC585_0 := Aside0.mk hl585_0
      clear hi585_0 hl585_0
      replace p585 := eq_true p585
      replace q585 := eq_true q585
      refine start_ (n := 8) (S := fun w' => w'.cell? ⟨gb581, 0, none⟩ = some (.slice A0_0 l0_0.length c0_0) ∧ w'.cell? ⟨gb581, 1, none⟩ = some (.slice (some ad585) l0_1.length c0_1) ∧ w'.cell? ⟨gb582, 0, none⟩ = some (.int .i64 a1_0) ∧ w'.cell? ⟨gb582, 1, none⟩ = some (.int .i64 a1_1) ∧ w'.cell? ⟨gb582, 2, none⟩ = some (.int .i64 a1_2) ∧ w'.cell? (ad585.add ((ji20)).toNat) = some (.slice A585_0 (rd_L7 l0_1 (ji20)).length c585_0)) (ds := []) #[z,z,z,z,z,z,z,z] (by kernel_rfl) rfl rfl ⟨(blk_cell BK581.out 0).trans rfl, (blk_cell BK581.out 1).trans rfl, (blk_cell BK582.out 0).trans rfl, (blk_cell BK582.out 1).trans rfl, (blk_cell BK582.out 2).trans rfl, (hc_ HB hw585_0)⟩ (fun hHeld => ?_); refine with_tabW impl_FastRule.tab5 impl_FastRule.bits5 (fun HT_ HW_ => ?_)
      generalize wc.drew = w25 at BK581 BK582 BK583 HB HR585_0 hx585_0 hHeld ⊢
      refine pure_ (i := 0) (N := some 26) (v := ?_) (a' := ?_) #[o,z,z,z,z,z,z,z] rfl rfl (any_of HT_.out (by kernel_rfl)) (fun _ _ _ h => h) (Or.inl ⟨by rfl, ?_⟩) ?_ ?_
      rotate_left
      ·intro w'
       go_simp
       with_reducible rfl
      rotate_left
      ·simp only [Act.put, qa, qb, qc, i64_w, i32_w]
       rfl
      refine pure_ (i := 2) (N := some 28) (v := ?_) (a' := ?_) #[o,z,o,z,z,z,z,z] rfl rfl (any_of HT_.out (by kernel_rfl)) (fun _ _ _ h => h) (Or.inl ⟨by rfl, ?_⟩) ?_ ?_
      rotate_left
      ·intro w'
       go_simp
       with_reducible rfl
      rotate_left
      ·simp only [Act.put, qa, qb, qc, i64_w, i32_w]
       rfl
      refine take_ (i := 1) (N := some 27) (v := ?_) (a' := ?_) #[o,o,o,z,z,z,z,z] rfl rfl (take_ofW HT_.out HW_.out (by kernel_rfl)) (fun _ _ _ h => h) (Or.inl ⟨by rfl, ?_⟩) hHeld ?_ ?_
      rotate_left
      ·rintro w' ⟨s0, s1, s2, s3, s4, s5⟩
       go_simp
       with_reducible rfl
      rotate_left
      ·simp only [Act.put, qa, qb, qc, i64_w, i32_w]
       rfl
      refine pure_ (i := 3) (N := some 29) (v := ?_) (a' := ?_) #[o,o,o,o,z,z,z,z] rfl rfl (any_of HT_.out (by kernel_rfl)) (fun _ _ _ h => h) (Or.inl ⟨by rfl, ?_⟩) ?_ ?_
      rotate_left
      ·intro w'
       go_simp
       with_reducible rfl
      rotate_left
      ·simp only [Act.put, qa, qb, qc, i64_w, i32_w]
       rfl
      refine take_ (i := 4) (N := some 30) (v := ?_) (a' := ?_) #[o,o,o,o,o,z,z,z] rfl rfl (take_ofW HT_.out HW_.out (by kernel_rfl)) (fun _ _ _ h => h) (Or.inl ⟨by rfl, ?_⟩) hHeld ?_ ?_
      rotate_left
      ·rintro w' ⟨s0, s1, s2, s3, s4, s5⟩
       go_simp
       with_reducible rfl
      rotate_left
      ·simp only [Act.put, qa, qb, qc, i64_w, i32_w]
       rfl
      refine take_ (i := 5) (N := some 31) (v := ?_) (a' := ?_) #[o,o,o,o,o,o,z,z] rfl rfl (take_ofW HT_.out HW_.out (by kernel_rfl)) (fun _ _ _ h => h) (Or.inl ⟨by rfl, ?_⟩) hHeld ?_ ?_
      rotate_left
      ·rintro w' ⟨s0, s1, s2, s3, s4, s5⟩
       go_simp
       with_reducible rfl
      rotate_left
      ·simp only [Act.put, qa, qb, qc, i64_w, i32_w]
       rfl
      refine one_ (i := 6) (N := some 32) #[o,o,o,o,o,o,o,z] rfl rfl (one_of HT_.out (by kernel_rfl)) (by decide) (fun K hK => ?_)
      refine goes_ Try.func39 (by kernel_rfl) rfl #[.slice A585_0 (rd_L7 l0_1 (ji20)).length c585_0, .agg #[.int .i64 a1_0, .int .i64 a1_1, .int .i64 a1_2]] (by rfl) rfl rfl (by (try simp only [List.map_toArray, List.map_cons, List.map_nil]); first | done | (simp only [hji20]; rfl) | rfl | (simp only [List.length_drop, List.length_take]; rfl)) ?_
      with_reducible refine (impl_firstOf.calls kj3 _ _ (rd_L7 l0_1 (ji20)) a1_0 a1_1 a1_2 t586 _ ?side1 ?side2 A23.out).mono ?_
      (case side1 => exact cB ((Kd.C_below HR585_0.out HB.out)))
      (case side2 => exact HC585_0.out)
      rintro e w26 ⟨rfl, hb⟩
      refine ⟨_, rfl, ?_⟩
      replace BK581 := am (blk_below (bB BK581.out) hb)
      replace BK582 := am (blk_below (bB BK582.out) hb)
      replace BK583 := am (blk_below (bB BK583.out) hb)
      replace HB := am (below_step (sB HB.out) hb)
      (try clear hb)
      (try clear hb2)
      (try clear hk)
      (try clear hi)
      refine hK.out _ _ ⟨(blk_cell BK581.out 0).trans rfl, (blk_cell BK581.out 1).trans rfl, (blk_cell BK582.out 0).trans rfl, (blk_cell BK582.out 1).trans rfl, (blk_cell BK582.out 2).trans rfl, (hc_ HB hw585_0)⟩ (fun hHeld => ?_)
      clear hK K
      refine norm_ (a' := ?_) ?_ ?_
      rotate_left
      ·show Act.put _ (some 32) _ = _
       simp only [Act.put, qa, qb, qc, i64_w, i32_w]
       rfl
      refine pure_ (i := 7) (N := some 7) (v := ?_) (a' := ?_) #[o,o,o,o,o,o,o,o] rfl rfl (any_of HT_.out (by kernel_rfl)) (fun _ _ _ h => h) (Or.inl ⟨by rfl, ?_⟩) ?_ ?_
      rotate_left
      ·intro w'
       go_simp
       with_reducible rfl
      rotate_left
      ·simp only [Act.put, qa, qb, qc, i64_w, i32_w]
       rfl
      refine done_ (done_of HT_.out (by kernel_rfl)) ?_
      go_upto_region 6 with (fail)
      go_cut [54] (fun v54 wc => ∃ (kq : Nat) (x54_23 : Bool), v54 = .bool x54_23 ∧ Aside0 (impl_FastRule.j1 kq t584 t586 (ji20) x54_23 l0_0 l0_1 = some (r1, r2, r3, r4, r5, r6, r7, r8, r9)) ∧ Aside0 (kq ≤ kj3) ∧ Aside0 (wc.heap[gb581]? = some (.cells #[(.slice A0_0 l0_0.length c0_0), (.slice (some ad585) l0_1.length c0_1)] 33 (0, 0))) ∧ Aside0 (wc.heap[gb582]? = some (.cells #[.int .i64 a1_0, .int .i64 a1_1, .int .i64 a1_2] 28 (0, 0))) ∧ Aside0 (wc.heap[gb583]? = some (.cells #[.int .i64 0, .int .i64 0, .int .i64 0, .int .i64 0, .int .i64 0, .int .i64 0, .int .i64 0, .int .i64 0] 37 (0, 0))) ∧ Aside0 (Below w.heap.size w wc))
      case first =>
       have H := HC24.out
       clear HC24
       by_cases c27 : t586 ≥ 0
       ·rw [if_pos c27] at H
        have c27b0 : decide (0 ≤ t586) = true := decide_eq_true c27
        clear c27
        (first | rw [c27b0] | (simp only [i64_w, i32_w]; rw [c27b0]) | skip)
        by_cases c28 : t584 < 0
        ·rw [if_pos c28] at H
         have c28b0 : decide (t584 < 0) = true := decide_eq_true c28
         clear c28
         have H' := Aside0.mk H
         clear H
         try go_wp2
         replace BK581 := am (blk_drew BK581.out)
         replace BK582 := am (blk_drew BK582.out)
         replace BK583 := am (blk_drew BK583.out)
         replace HB := am (below_drew1 HB.out)
         refine start_ (n := 22) (S := fun w' => True) (ds := []) #[z,z,z,z,z,z,z,z,z,z,z,z,z,z,z,z,z,z,z,z,z,z] (by kernel_rfl) rfl rfl trivial (fun hHeld => ?_); refine with_tabW impl_FastRule.tab6 impl_FastRule.bits6 (fun HT_ HW_ => ?_)
         generalize w26.drew = w29 at BK581 BK582 BK583 HB hHeld ⊢
         refine pure_ (i := 0) (N := some 33) (v := ?_) (a' := ?_) #[o,z,z,z,z,z,z,z,z,z,z,z,z,z,z,z,z,z,z,z,z,z] rfl rfl (any_of HT_.out (by kernel_rfl)) (fun _ _ _ h => h) (Or.inl ⟨by rfl, ?_⟩) ?_ ?_
         rotate_left
         ·intro w'
          go_simp
          with_reducible rfl
         rotate_left
         ·simp only [Act.put, qa, qb, qc, i64_w, i32_w]
          rfl
         refine pure_ (i := 1) (N := some 34) (v := ?_) (a' := ?_) #[o,o,z,z,z,z,z,z,z,z,z,z,z,z,z,z,z,z,z,z,z,z] rfl rfl (any_of HT_.out (by kernel_rfl)) (fun _ _ _ h => h) (Or.inl ⟨by rfl, ?_⟩) ?_ ?_
         rotate_left
         ·intro w'
          go_simp
          with_reducible rfl
         rotate_left
         ·simp only [Act.put, qa, qb, qc, i64_w, i32_w]
          rfl
         refine pure_ (i := 2) (N := some 35) (v := ?_) (a' := ?_) #[o,o,o,z,z,z,z,z,z,z,z,z,z,z,z,z,z,z,z,z,z,z] rfl rfl (any_of HT_.out (by kernel_rfl)) (fun _ _ _ h => h) (Or.inl ⟨by rfl, ?_⟩) ?_ ?_
         rotate_left
         ·intro w'
          go_simp
          with_reducible rfl
         rotate_left
         ·simp only [Act.put, qa, qb, qc, i64_w, i32_w]
          rfl
         refine pure_ (i := 3) (N := some 36) (v := ?_) (a' := ?_) #[o,o,o,o,z,z,z,z,z,z,z,z,z,z,z,z,z,z,z,z,z,z] rfl rfl (any_of HT_.out (by kernel_rfl)) (fun _ _ _ h => h) (Or.inl ⟨by rfl, ?_⟩) ?_ ?_
         rotate_left
         ·intro w'
          go_simp
          with_reducible rfl
         rotate_left
         ·simp only [Act.put, qa, qb, qc, i64_w, i32_w]
          rfl
         refine pure_ (i := 4) (N := some 37) (v := ?_) (a' := ?_) #[o,o,o,o,o,z,z,z,z,z,z,z,z,z,z,z,z,z,z,z,z,z] rfl rfl (any_of HT_.out (by kernel_rfl)) (fun _ _ _ h => h) (Or.inl ⟨by rfl, ?_⟩) ?_ ?_
         rotate_left
         ·intro w'
          go_simp
          with_reducible rfl
         rotate_left
         ·simp only [Act.put, qa, qb, qc, i64_w, i32_w]
          rfl
         refine pure_ (i := 5) (N := some 38) (v := ?_) (a' := ?_) #[o,o,o,o,o,o,z,z,z,z,z,z,z,z,z,z,z,z,z,z,z,z] rfl rfl (any_of HT_.out (by kernel_rfl)) (fun _ _ _ h => h) (Or.inl ⟨by rfl, ?_⟩) ?_ ?_
         rotate_left
         ·intro w'
          go_simp
          with_reducible rfl
         rotate_left
         ·simp only [Act.put, qa, qb, qc, i64_w, i32_w]
          rfl
         refine pure_ (i := 6) (N := some 39) (v := undef) (a' := ?_) #[o,o,o,o,o,o,o,z,z,z,z,z,z,z,z,z,z,z,z,z,z,z] rfl rfl (any_of HT_.out (by kernel_rfl)) (fun _ _ _ h => h) (Or.inr ⟨by rfl, rfl⟩) ?_ ?_
         rotate_left
         ·simp only [Act.put, qa, qb, qc, i64_w, i32_w]
          rfl
         refine pure_ (i := 7) (N := some 40) (v := undef) (a' := ?_) #[o,o,o,o,o,o,o,o,z,z,z,z,z,z,z,z,z,z,z,z,z,z] rfl rfl (any_of HT_.out (by kernel_rfl)) (fun _ _ _ h => h) (Or.inr ⟨by rfl, rfl⟩) ?_ ?_
         rotate_left
         ·simp only [Act.put, qa, qb, qc, i64_w, i32_w]
          rfl
         refine pure_ (i := 8) (N := some 41) (v := undef) (a' := ?_) #[o,o,o,o,o,o,o,o,o,z,z,z,z,z,z,z,z,z,z,z,z,z] rfl rfl (any_of HT_.out (by kernel_rfl)) (fun _ _ _ h => h) (Or.inr ⟨by rfl, rfl⟩) ?_ ?_
         rotate_left
         ·simp only [Act.put, qa, qb, qc, i64_w, i32_w]
          rfl
         refine pure_ (i := 9) (N := some 42) (v := undef) (a' := ?_) #[o,o,o,o,o,o,o,o,o,o,z,z,z,z,z,z,z,z,z,z,z,z] rfl rfl (any_of HT_.out (by kernel_rfl)) (fun _ _ _ h => h) (Or.inr ⟨by rfl, rfl⟩) ?_ ?_
         rotate_left
         ·simp only [Act.put, qa, qb, qc, i64_w, i32_w]
          rfl
         refine pure_ (i := 10) (N := some 43) (v := undef) (a' := ?_) #[o,o,o,o,o,o,o,o,o,o,o,z,z,z,z,z,z,z,z,z,z,z] rfl rfl (any_of HT_.out (by kernel_rfl)) (fun _ _ _ h => h) (Or.inr ⟨by rfl, rfl⟩) ?_ ?_
         rotate_left
         ·simp only [Act.put, qa, qb, qc, i64_w, i32_w]
          rfl
         refine pure_ (i := 11) (N := some 44) (v := undef) (a' := ?_) #[o,o,o,o,o,o,o,o,o,o,o,o,z,z,z,z,z,z,z,z,z,z] rfl rfl (any_of HT_.out (by kernel_rfl)) (fun _ _ _ h => h) (Or.inr ⟨by rfl, rfl⟩) ?_ ?_
         rotate_left
         ·simp only [Act.put, qa, qb, qc, i64_w, i32_w]
          rfl
         refine pure_ (i := 12) (N := some 45) (v := undef) (a' := ?_) #[o,o,o,o,o,o,o,o,o,o,o,o,o,z,z,z,z,z,z,z,z,z] rfl rfl (any_of HT_.out (by kernel_rfl)) (fun _ _ _ h => h) (Or.inr ⟨by rfl, rfl⟩) ?_ ?_
         rotate_left
         ·simp only [Act.put, qa, qb, qc, i64_w, i32_w]
          rfl
         refine pure_ (i := 13) (N := some 46) (v := undef) (a' := ?_) #[o,o,o,o,o,o,o,o,o,o,o,o,o,o,z,z,z,z,z,z,z,z] rfl rfl (any_of HT_.out (by kernel_rfl)) (fun _ _ _ h => h) (Or.inr ⟨by rfl, rfl⟩) ?_ ?_
         rotate_left
         ·simp only [Act.put, qa, qb, qc, i64_w, i32_w]
          rfl
         refine pure_ (i := 14) (N := some 47) (v := undef) (a' := ?_) #[o,o,o,o,o,o,o,o,o,o,o,o,o,o,o,z,z,z,z,z,z,z] rfl rfl (any_of HT_.out (by kernel_rfl)) (fun _ _ _ h => h) (Or.inr ⟨by rfl, rfl⟩) ?_ ?_
         rotate_left
         ·simp only [Act.put, qa, qb, qc, i64_w, i32_w]
          rfl
         refine pure_ (i := 15) (N := some 48) (v := undef) (a' := ?_) #[o,o,o,o,o,o,o,o,o,o,o,o,o,o,o,o,z,z,z,z,z,z] rfl rfl (any_of HT_.out (by kernel_rfl)) (fun _ _ _ h => h) (Or.inr ⟨by rfl, rfl⟩) ?_ ?_
         rotate_left
         ·simp only [Act.put, qa, qb, qc, i64_w, i32_w]
          rfl
         refine pure_ (i := 16) (N := some 49) (v := undef) (a' := ?_) #[o,o,o,o,o,o,o,o,o,o,o,o,o,o,o,o,o,z,z,z,z,z] rfl rfl (any_of HT_.out (by kernel_rfl)) (fun _ _ _ h => h) (Or.inr ⟨by rfl, rfl⟩) ?_ ?_
         rotate_left
         ·simp only [Act.put, qa, qb, qc, i64_w, i32_w]
          rfl
         refine pure_ (i := 17) (N := some 50) (v := undef) (a' := ?_) #[o,o,o,o,o,o,o,o,o,o,o,o,o,o,o,o,o,o,z,z,z,z] rfl rfl (any_of HT_.out (by kernel_rfl)) (fun _ _ _ h => h) (Or.inr ⟨by rfl, rfl⟩) ?_ ?_
         rotate_left
         ·simp only [Act.put, qa, qb, qc, i64_w, i32_w]
          rfl
         refine pure_ (i := 18) (N := some 51) (v := undef) (a' := ?_) #[o,o,o,o,o,o,o,o,o,o,o,o,o,o,o,o,o,o,o,z,z,z] rfl rfl (any_of HT_.out (by kernel_rfl)) (fun _ _ _ h => h) (Or.inr ⟨by rfl, rfl⟩) ?_ ?_
         rotate_left
         ·simp only [Act.put, qa, qb, qc, i64_w, i32_w]
          rfl
         refine pure_ (i := 19) (N := some 52) (v := undef) (a' := ?_) #[o,o,o,o,o,o,o,o,o,o,o,o,o,o,o,o,o,o,o,o,z,z] rfl rfl (any_of HT_.out (by kernel_rfl)) (fun _ _ _ h => h) (Or.inr ⟨by rfl, rfl⟩) ?_ ?_
         rotate_left
         ·simp only [Act.put, qa, qb, qc, i64_w, i32_w]
          rfl
         refine pure_ (i := 20) (N := some 53) (v := ?_) (a' := ?_) #[o,o,o,o,o,o,o,o,o,o,o,o,o,o,o,o,o,o,o,o,o,z] rfl rfl (any_of HT_.out (by kernel_rfl)) (fun _ _ _ h => h) (Or.inl ⟨by rfl, ?_⟩) ?_ ?_
         rotate_left
         ·intro w'
          go_simp
          with_reducible rfl
         rotate_left
         ·simp only [Act.put, qa, qb, qc, i64_w, i32_w]
          rfl
         refine pure_ (i := 21) (N := some 54) (v := ?_) (a' := ?_) #[o,o,o,o,o,o,o,o,o,o,o,o,o,o,o,o,o,o,o,o,o,o] rfl rfl (any_of HT_.out (by kernel_rfl)) (fun _ _ _ h => h) (Or.inl ⟨by rfl, ?_⟩) ?_ ?_
         rotate_left
         ·intro w'
          go_simp
          with_reducible rfl
         rotate_left
         ·simp only [Act.put, qa, qb, qc, i64_w, i32_w]
          rfl
         refine done_ (done_of HT_.out (by kernel_rfl)) ?_
         try go_wp2
         go_meet
         case rel => exact ⟨_, (true), (by first | rfl | (simp; done) | (simp [*]; done)), H', ⟨by have := HJ3.out; first | omega | exact Nat.le_refl _⟩, ⟨bB BK581.out⟩, ⟨bB BK582.out⟩, ⟨bB BK583.out⟩, ⟨sB HB.out⟩⟩
        ·rw [if_neg c28] at H
         have c28b0 : decide (t584 < 0) = false := decide_eq_false c28
         clear c28
         by_cases c30 : 0 ≤ t586
         ·rw [if_pos c30] at H
          have c30b0 : decide (0 ≤ t586) = true := decide_eq_true c30
          clear c30
          by_cases c31 : t586 < ((rd_L7 l0_1 (ji20)).length : Int)
          ·rw [if_pos c31] at H
           have c31b0 : decide (t586 < ((rd_L7 l0_1 (ji20)).length : Int)) = true := decide_eq_true c31
           clear c31
           by_cases c32 : 0 ≤ t584
           ·rw [if_pos c32] at H
            have c32b0 : decide (0 ≤ t584) = true := decide_eq_true c32
            clear c32
            by_cases c33 : t584 < (l0_0.length : Int)
            ·rw [if_pos c33] at H
             have c33b0 : decide (t584 < (l0_0.length : Int)) = true := decide_eq_true c33
             clear c33
             replace H := Option.bind_eq_some_iff.mp H
             obtain ⟨t590, A340, H⟩ := H
             replace H : (impl_FastRule.j1 kj3 t584 t586 (ji20) t590 l0_0 l0_1) = some (r1, r2, r3, r4, r5, r6, r7, r8, r9) := H
             have A34 := Aside0.mk A340
             clear A340
             have H' := Aside0.mk H
             clear H
             try go_wp2
             replace BK581 := am (blk_drew BK581.out)
             replace BK582 := am (blk_drew BK582.out)
             replace BK583 := am (blk_drew BK583.out)
             replace HB := am (below_drew1 HB.out)
             have p587 : 0 ≤ ((ji20) : Int) := of_decide_eq_true (by first | (with_reducible assumption) | assumption)
             have q587 : (ji20) < (l0_1.length : Int) := of_decide_eq_true (by first | (with_reducible assumption) | assumption)
             obtain ⟨ad587, A587_0, c587_0, e587, hx587_0, hl587_0, hi587_0⟩ := at_L7 HR0_1.out (ji20) p587 q587
             have hw587_0 := hx587_0
             obtain rfl : ad585 = ad587 := (by injection e587)
             replace hx587_0 := hc_ HB hx587_0
             have HR587_0 := Aside0.mk hi587_0
             have HC587_0 := Aside0.mk hl587_0
             clear hi587_0 hl587_0
             replace p587 := eq_true p587
             replace q587 := eq_true q587
             have p588 : 0 ≤ (t586 : Int) := of_decide_eq_true (by first | (with_reducible assumption) | assumption)
             have q588 : t586 < ((rd_L7 l0_1 (ji20)).length : Int) := of_decide_eq_true (by first | (with_reducible assumption) | assumption)
             obtain ⟨ad588, e588, hx588_0, hx588_1, hx588_2, hx588_3, hx588_4, hx588_5, hx588_6, hx588_7⟩ := at_T37 HR587_0.out t586 p588 q588
             have hw588_7 := hx588_7
             have hw588_6 := hx588_6
             have hw588_5 := hx588_5
             have hw588_4 := hx588_4
             have hw588_3 := hx588_3
             have hw588_2 := hx588_2
             have hw588_1 := hx588_1
             have hw588_0 := hx588_0
             cases e588
             replace hx588_0 := hc_ HB hx588_0
             replace hx588_1 := hc_ HB hx588_1
             replace hx588_2 := hc_ HB hx588_2
             replace hx588_3 := hc_ HB hx588_3
             replace hx588_4 := hc_ HB hx588_4
             replace hx588_5 := hc_ HB hx588_5
             replace hx588_6 := hc_ HB hx588_6
             replace hx588_7 := hc_ HB hx588_7
             replace p588 := eq_true p588
             replace q588 := eq_true q588
             have p589 : 0 ≤ (t584 : Int) := of_decide_eq_true (by first | (with_reducible assumption) | assumption)
             have q589 : t584 < (l0_0.length : Int) := of_decide_eq_true (by first | (with_reducible assumption) | assumption)
             obtain ⟨ad589, e589, hx589_0, hx589_1, hx589_2, hx589_3, hx589_4, hx589_5, hx589_6, hx589_7⟩ := at_T37 HR0_0.out t584 p589 q589
             have hw589_7 := hx589_7
             have hw589_6 := hx589_6
             have hw589_5 := hx589_5
             have hw589_4 := hx589_4
             have hw589_3 := hx589_3
             have hw589_2 := hx589_2
             have hw589_1 := hx589_1
             have hw589_0 := hx589_0
             cases e589
             replace hx589_0 := hc_ HB hx589_0
             replace hx589_1 := hc_ HB hx589_1
             replace hx589_2 := hc_ HB hx589_2
             replace hx589_3 := hc_ HB hx589_3
             replace hx589_4 := hc_ HB hx589_4
             replace hx589_5 := hc_ HB hx589_5
             replace hx589_6 := hc_ HB hx589_6
             replace hx589_7 := hc_ HB hx589_7
             replace p589 := eq_true p589
             replace q589 := eq_true q589
             refine start_ (n := 22) (S := fun w' => w'.cell? ⟨gb581, 0, none⟩ = some (.slice (some ad589) l0_0.length c0_0) ∧ w'.cell? ⟨gb581, 1, none⟩ = some (.slice (some ad585) l0_1.length c0_1) ∧ w'.cell? (ad585.add ((ji20)).toNat) = some (.slice (some ad588) (rd_L7 l0_1 (ji20)).length c587_0) ∧ w'.cell? (ad588.add ((t586).toNat * 8)) = some (.int .i64 ((rd_T37 (rd_L7 l0_1 (ji20)) t586).f0)) ∧ w'.cell? ⟨(ad588.add ((t586).toNat * 8)).block, (ad588.add ((t586).toNat * 8)).off + 1, none⟩ = some (.int .i64 ((rd_T37 (rd_L7 l0_1 (ji20)) t586).f1)) ∧ w'.cell? ⟨(ad588.add ((t586).toNat * 8)).block, (ad588.add ((t586).toNat * 8)).off + 2, none⟩ = some (.int .i64 ((rd_T37 (rd_L7 l0_1 (ji20)) t586).f2.f0)) ∧ w'.cell? ⟨(ad588.add ((t586).toNat * 8)).block, (ad588.add ((t586).toNat * 8)).off + 3, none⟩ = some (.int .i64 ((rd_T37 (rd_L7 l0_1 (ji20)) t586).f2.f1)) ∧ w'.cell? ⟨(ad588.add ((t586).toNat * 8)).block, (ad588.add ((t586).toNat * 8)).off + 4, none⟩ = some (.int .i64 ((rd_T37 (rd_L7 l0_1 (ji20)) t586).f3)) ∧ w'.cell? ⟨(ad588.add ((t586).toNat * 8)).block, (ad588.add ((t586).toNat * 8)).off + 5, none⟩ = some (.int .i64 ((rd_T37 (rd_L7 l0_1 (ji20)) t586).f4)) ∧ w'.cell? ⟨(ad588.add ((t586).toNat * 8)).block, (ad588.add ((t586).toNat * 8)).off + 6, none⟩ = some (.int .i64 ((rd_T37 (rd_L7 l0_1 (ji20)) t586).f5.f0)) ∧ w'.cell? ⟨(ad588.add ((t586).toNat * 8)).block, (ad588.add ((t586).toNat * 8)).off + 7, none⟩ = some (.int .i64 ((rd_T37 (rd_L7 l0_1 (ji20)) t586).f5.f1)) ∧ w'.cell? (ad589.add ((t584).toNat * 8)) = some (.int .i64 ((rd_T37 l0_0 t584).f0)) ∧ w'.cell? ⟨(ad589.add ((t584).toNat * 8)).block, (ad589.add ((t584).toNat * 8)).off + 1, none⟩ = some (.int .i64 ((rd_T37 l0_0 t584).f1)) ∧ w'.cell? ⟨(ad589.add ((t584).toNat * 8)).block, (ad589.add ((t584).toNat * 8)).off + 2, none⟩ = some (.int .i64 ((rd_T37 l0_0 t584).f2.f0)) ∧ w'.cell? ⟨(ad589.add ((t584).toNat * 8)).block, (ad589.add ((t584).toNat * 8)).off + 3, none⟩ = some (.int .i64 ((rd_T37 l0_0 t584).f2.f1)) ∧ w'.cell? ⟨(ad589.add ((t584).toNat * 8)).block, (ad589.add ((t584).toNat * 8)).off + 4, none⟩ = some (.int .i64 ((rd_T37 l0_0 t584).f3)) ∧ w'.cell? ⟨(ad589.add ((t584).toNat * 8)).block, (ad589.add ((t584).toNat * 8)).off + 5, none⟩ = some (.int .i64 ((rd_T37 l0_0 t584).f4)) ∧ w'.cell? ⟨(ad589.add ((t584).toNat * 8)).block, (ad589.add ((t584).toNat * 8)).off + 6, none⟩ = some (.int .i64 ((rd_T37 l0_0 t584).f5.f0)) ∧ w'.cell? ⟨(ad589.add ((t584).toNat * 8)).block, (ad589.add ((t584).toNat * 8)).off + 7, none⟩ = some (.int .i64 ((rd_T37 l0_0 t584).f5.f1))) (ds := []) #[z,z,z,z,z,z,z,z,z,z,z,z,z,z,z,z,z,z,z,z,z,z] (by kernel_rfl) rfl rfl ⟨(blk_cell BK581.out 0).trans rfl, (blk_cell BK581.out 1).trans rfl, (hc_ HB hw587_0), (hc_ HB hw588_0), (hc_ HB hw588_1), (hc_ HB hw588_2), (hc_ HB hw588_3), (hc_ HB hw588_4), (hc_ HB hw588_5), (hc_ HB hw588_6), (hc_ HB hw588_7), (hc_ HB hw589_0), (hc_ HB hw589_1), (hc_ HB hw589_2), (hc_ HB hw589_3), (hc_ HB hw589_4), (hc_ HB hw589_5), (hc_ HB hw589_6), (hc_ HB hw589_7)⟩ (fun hHeld => ?_); refine with_tabW impl_FastRule.tab6 impl_FastRule.bits6 (fun HT_ HW_ => ?_)
             generalize w26.drew = w35 at BK581 BK582 BK583 HB HR587_0 hx587_0 hx588_0 hx588_1 hx588_2 hx588_3 hx588_4 hx588_5 hx588_6 hx588_7 hx589_0 hx589_1 hx589_2 hx589_3 hx589_4 hx589_5 hx589_6 hx589_7 hHeld ⊢
             refine pure_ (i := 0) (N := some 33) (v := ?_) (a' := ?_) #[o,z,z,z,z,z,z,z,z,z,z,z,z,z,z,z,z,z,z,z,z,z] rfl rfl (any_of HT_.out (by kernel_rfl)) (fun _ _ _ h => h) (Or.inl ⟨by rfl, ?_⟩) ?_ ?_
             rotate_left
             ·intro w'
              go_simp
              with_reducible rfl
             rotate_left
             ·simp only [Act.put, qa, qb, qc, i64_w, i32_w]
              rfl
             refine pure_ (i := 1) (N := some 34) (v := ?_) (a' := ?_) #[o,o,z,z,z,z,z,z,z,z,z,z,z,z,z,z,z,z,z,z,z,z] rfl rfl (any_of HT_.out (by kernel_rfl)) (fun _ _ _ h => h) (Or.inl ⟨by rfl, ?_⟩) ?_ ?_
             rotate_left
             ·intro w'
              go_simp
              with_reducible rfl
             rotate_left
             ·simp only [Act.put, qa, qb, qc, i64_w, i32_w]
              rfl
             refine pure_ (i := 2) (N := some 35) (v := ?_) (a' := ?_) #[o,o,o,z,z,z,z,z,z,z,z,z,z,z,z,z,z,z,z,z,z,z] rfl rfl (any_of HT_.out (by kernel_rfl)) (fun _ _ _ h => h) (Or.inl ⟨by rfl, ?_⟩) ?_ ?_
             rotate_left
             ·intro w'
              go_simp
              with_reducible rfl
             rotate_left
             ·simp only [Act.put, qa, qb, qc, i64_w, i32_w]
              rfl
             refine pure_ (i := 3) (N := some 36) (v := ?_) (a' := ?_) #[o,o,o,o,z,z,z,z,z,z,z,z,z,z,z,z,z,z,z,z,z,z] rfl rfl (any_of HT_.out (by kernel_rfl)) (fun _ _ _ h => h) (Or.inl ⟨by rfl, ?_⟩) ?_ ?_
             rotate_left
             ·intro w'
              go_simp
              with_reducible rfl
             rotate_left
             ·simp only [Act.put, qa, qb, qc, i64_w, i32_w]
              rfl
             refine pure_ (i := 4) (N := some 37) (v := ?_) (a' := ?_) #[o,o,o,o,o,z,z,z,z,z,z,z,z,z,z,z,z,z,z,z,z,z] rfl rfl (any_of HT_.out (by kernel_rfl)) (fun _ _ _ h => h) (Or.inl ⟨by rfl, ?_⟩) ?_ ?_
             rotate_left
             ·intro w'
              go_simp
              with_reducible rfl
             rotate_left
             ·simp only [Act.put, qa, qb, qc, i64_w, i32_w]
              rfl
             refine pure_ (i := 5) (N := some 38) (v := ?_) (a' := ?_) #[o,o,o,o,o,o,z,z,z,z,z,z,z,z,z,z,z,z,z,z,z,z] rfl rfl (any_of HT_.out (by kernel_rfl)) (fun _ _ _ h => h) (Or.inl ⟨by rfl, ?_⟩) ?_ ?_
             rotate_left
             ·intro w'
              go_simp
              with_reducible rfl
             rotate_left
             ·simp only [Act.put, qa, qb, qc, i64_w, i32_w]
              rfl
             refine pure_ (i := 6) (N := some 39) (v := ?_) (a' := ?_) #[o,o,o,o,o,o,o,z,z,z,z,z,z,z,z,z,z,z,z,z,z,z] rfl rfl (any_of HT_.out (by kernel_rfl)) (fun _ _ _ h => h) (Or.inl ⟨by rfl, ?_⟩) ?_ ?_
             rotate_left
             ·intro w'
              go_simp
              with_reducible rfl
             rotate_left
             ·simp only [Act.put, qa, qb, qc, i64_w, i32_w]
              rfl
             refine pure_ (i := 8) (N := some 41) (v := ?_) (a' := ?_) #[o,o,o,o,o,o,o,z,o,z,z,z,z,z,z,z,z,z,z,z,z,z] rfl rfl (any_of HT_.out (by kernel_rfl)) (fun _ _ _ h => h) (Or.inl ⟨by rfl, ?_⟩) ?_ ?_
             rotate_left
             ·intro w'
              go_simp
              with_reducible rfl
             rotate_left
             ·simp only [Act.put, qa, qb, qc, i64_w, i32_w]
              rfl
             refine pure_ (i := 11) (N := some 44) (v := ?_) (a' := ?_) #[o,o,o,o,o,o,o,z,o,z,z,o,z,z,z,z,z,z,z,z,z,z] rfl rfl (any_of HT_.out (by kernel_rfl)) (fun _ _ _ h => h) (Or.inl ⟨by rfl, ?_⟩) ?_ ?_
             rotate_left
             ·intro w'
              go_simp
              with_reducible rfl
             rotate_left
             ·simp only [Act.put, qa, qb, qc, i64_w, i32_w]
              rfl
             refine pure_ (i := 14) (N := some 47) (v := ?_) (a' := ?_) #[o,o,o,o,o,o,o,z,o,z,z,o,z,z,o,z,z,z,z,z,z,z] rfl rfl (any_of HT_.out (by kernel_rfl)) (fun _ _ _ h => h) (Or.inl ⟨by rfl, ?_⟩) ?_ ?_
             rotate_left
             ·intro w'
              go_simp
              with_reducible rfl
             rotate_left
             ·simp only [Act.put, qa, qb, qc, i64_w, i32_w]
              rfl
             refine pure_ (i := 16) (N := some 49) (v := ?_) (a' := ?_) #[o,o,o,o,o,o,o,z,o,z,z,o,z,z,o,z,o,z,z,z,z,z] rfl rfl (any_of HT_.out (by kernel_rfl)) (fun _ _ _ h => h) (Or.inl ⟨by rfl, ?_⟩) ?_ ?_
             rotate_left
             ·intro w'
              go_simp
              with_reducible rfl
             rotate_left
             ·simp only [Act.put, qa, qb, qc, i64_w, i32_w]
              rfl
             refine take_ (i := 7) (N := some 40) (v := ?_) (a' := ?_) #[o,o,o,o,o,o,o,o,o,z,z,o,z,z,o,z,o,z,z,z,z,z] rfl rfl (take_ofW HT_.out HW_.out (by kernel_rfl)) (fun _ _ _ h => h) (Or.inl ⟨by rfl, ?_⟩) hHeld ?_ ?_
             rotate_left
             ·rintro w' ⟨s0, s1, s2, s3, s4, s5, s6, s7, s8, s9, s10, s11, s12, s13, s14, s15, s16, s17, s18⟩
              go_simp
              with_reducible rfl
             rotate_left
             ·simp only [Act.put, qa, qb, qc, i64_w, i32_w]
              rfl
             refine pure_ (i := 9) (N := some 42) (v := ?_) (a' := ?_) #[o,o,o,o,o,o,o,o,o,o,z,o,z,z,o,z,o,z,z,z,z,z] rfl rfl (any_of HT_.out (by kernel_rfl)) (fun _ _ _ h => h) (Or.inl ⟨by rfl, ?_⟩) ?_ ?_
             rotate_left
             ·intro w'
              go_simp
              with_reducible rfl
             rotate_left
             ·simp only [Act.put, qa, qb, qc, i64_w, i32_w]
              rfl
             refine take_ (i := 10) (N := some 43) (v := ?_) (a' := ?_) #[o,o,o,o,o,o,o,o,o,o,o,o,z,z,o,z,o,z,z,z,z,z] rfl rfl (take_ofW HT_.out HW_.out (by kernel_rfl)) (fun _ _ _ h => h) (Or.inl ⟨by rfl, ?_⟩) hHeld ?_ ?_
             rotate_left
             ·rintro w' ⟨s0, s1, s2, s3, s4, s5, s6, s7, s8, s9, s10, s11, s12, s13, s14, s15, s16, s17, s18⟩
              go_simp
              with_reducible rfl
             rotate_left
             ·simp only [Act.put, qa, qb, qc, i64_w, i32_w]
              rfl
             refine pure_ (i := 12) (N := some 45) (v := ?_) (a' := ?_) #[o,o,o,o,o,o,o,o,o,o,o,o,o,z,o,z,o,z,z,z,z,z] rfl rfl (any_of HT_.out (by kernel_rfl)) (fun _ _ _ h => h) (Or.inl ⟨by rfl, ?_⟩) ?_ ?_
             rotate_left
             ·intro w'
              go_simp
              with_reducible rfl
             rotate_left
             ·simp only [Act.put, qa, qb, qc, i64_w, i32_w]
              rfl
             refine take_ (i := 13) (N := some 46) (v := ?_) (a' := ?_) #[o,o,o,o,o,o,o,o,o,o,o,o,o,o,o,z,o,z,z,z,z,z] rfl rfl (take_ofW HT_.out HW_.out (by kernel_rfl)) (fun _ _ _ h => h) (Or.inl ⟨by rfl, ?_⟩) hHeld ?_ ?_
             rotate_left
             ·rintro w' ⟨s0, s1, s2, s3, s4, s5, s6, s7, s8, s9, s10, s11, s12, s13, s14, s15, s16, s17, s18⟩
              go_simp
              with_reducible rfl
             rotate_left
             ·simp only [Act.put, qa, qb, qc, i64_w, i32_w]
              rfl
             refine take_ (i := 15) (N := some 48) (v := ?_) (a' := ?_) #[o,o,o,o,o,o,o,o,o,o,o,o,o,o,o,o,o,z,z,z,z,z] rfl rfl (take_ofW HT_.out HW_.out (by kernel_rfl)) (fun _ _ _ h => h) (Or.inl ⟨by rfl, ?_⟩) hHeld ?_ ?_
             rotate_left
             ·rintro w' ⟨s0, s1, s2, s3, s4, s5, s6, s7, s8, s9, s10, s11, s12, s13, s14, s15, s16, s17, s18⟩
              go_simp
              with_reducible rfl
             rotate_left
             ·simp only [Act.put, qa, qb, qc, i64_w, i32_w]
              rfl
             refine pure_ (i := 17) (N := some 50) (v := ?_) (a' := ?_) #[o,o,o,o,o,o,o,o,o,o,o,o,o,o,o,o,o,o,z,z,z,z] rfl rfl (any_of HT_.out (by kernel_rfl)) (fun _ _ _ h => h) (Or.inl ⟨by rfl, ?_⟩) ?_ ?_
             rotate_left
             ·intro w'
              go_simp
              with_reducible rfl
             rotate_left
             ·simp only [Act.put, qa, qb, qc, i64_w, i32_w]
              rfl
             refine take_ (i := 18) (N := some 51) (v := ?_) (a' := ?_) #[o,o,o,o,o,o,o,o,o,o,o,o,o,o,o,o,o,o,o,z,z,z] rfl rfl (take_ofW HT_.out HW_.out (by kernel_rfl)) (fun _ _ _ h => h) (Or.inl ⟨by rfl, ?_⟩) hHeld ?_ ?_
             rotate_left
             ·rintro w' ⟨s0, s1, s2, s3, s4, s5, s6, s7, s8, s9, s10, s11, s12, s13, s14, s15, s16, s17, s18⟩
              go_simp
              with_reducible rfl
             rotate_left
             ·simp only [Act.put, qa, qb, qc, i64_w, i32_w]
              rfl
             refine one_ (i := 19) (N := some 52) #[o,o,o,o,o,o,o,o,o,o,o,o,o,o,o,o,o,o,o,o,z,z] rfl rfl (one_of HT_.out (by kernel_rfl)) (by decide) (fun K hK => ?_)
             refine goes_ Try.func31 (by kernel_rfl) rfl #[.agg #[.int .i64 ((rd_T37 (rd_L7 l0_1 (ji20)) t586).f0), .int .i64 ((rd_T37 (rd_L7 l0_1 (ji20)) t586).f1), .int .i64 ((rd_T37 (rd_L7 l0_1 (ji20)) t586).f2.f0), .int .i64 ((rd_T37 (rd_L7 l0_1 (ji20)) t586).f2.f1), .int .i64 ((rd_T37 (rd_L7 l0_1 (ji20)) t586).f3), .int .i64 ((rd_T37 (rd_L7 l0_1 (ji20)) t586).f4), .int .i64 ((rd_T37 (rd_L7 l0_1 (ji20)) t586).f5.f0), .int .i64 ((rd_T37 (rd_L7 l0_1 (ji20)) t586).f5.f1)], .agg #[.int .i64 ((rd_T37 l0_0 t584).f0), .int .i64 ((rd_T37 l0_0 t584).f1), .int .i64 ((rd_T37 l0_0 t584).f2.f0), .int .i64 ((rd_T37 l0_0 t584).f2.f1), .int .i64 ((rd_T37 l0_0 t584).f3), .int .i64 ((rd_T37 l0_0 t584).f4), .int .i64 ((rd_T37 l0_0 t584).f5.f0), .int .i64 ((rd_T37 l0_0 t584).f5.f1)]] (by rfl) rfl rfl (by (try simp only [List.map_toArray, List.map_cons, List.map_nil]); first | done | (simp only [hji20]; rfl) | rfl | (simp only [List.length_drop, List.length_take]; rfl)) ?_
             with_reducible refine (impl_IsBefore.calls kj3 ((rd_T37 (rd_L7 l0_1 (ji20)) t586).f0) ((rd_T37 (rd_L7 l0_1 (ji20)) t586).f1) ((rd_T37 (rd_L7 l0_1 (ji20)) t586).f2.f0) ((rd_T37 (rd_L7 l0_1 (ji20)) t586).f2.f1) ((rd_T37 (rd_L7 l0_1 (ji20)) t586).f3) ((rd_T37 (rd_L7 l0_1 (ji20)) t586).f4) ((rd_T37 (rd_L7 l0_1 (ji20)) t586).f5.f0) ((rd_T37 (rd_L7 l0_1 (ji20)) t586).f5.f1) ((rd_T37 l0_0 t584).f0) ((rd_T37 l0_0 t584).f1) ((rd_T37 l0_0 t584).f2.f0) ((rd_T37 l0_0 t584).f2.f1) ((rd_T37 l0_0 t584).f3) ((rd_T37 l0_0 t584).f4) ((rd_T37 l0_0 t584).f5.f0) ((rd_T37 l0_0 t584).f5.f1) t590 _ A34.out).mono ?_
             rintro e w36 ⟨rfl, hb⟩
             refine ⟨_, rfl, ?_⟩
             replace BK581 := am (blk_below (bB BK581.out) hb)
             replace BK582 := am (blk_below (bB BK582.out) hb)
             replace BK583 := am (blk_below (bB BK583.out) hb)
             replace HB := am (below_step (sB HB.out) hb)
             (try clear hb)
             (try clear hb2)
             (try clear hk)
             (try clear hi)
             refine hK.out _ _ ⟨(blk_cell BK581.out 0).trans rfl, (blk_cell BK581.out 1).trans rfl, (hc_ HB hw587_0), (hc_ HB hw588_0), (hc_ HB hw588_1), (hc_ HB hw588_2), (hc_ HB hw588_3), (hc_ HB hw588_4), (hc_ HB hw588_5), (hc_ HB hw588_6), (hc_ HB hw588_7), (hc_ HB hw589_0), (hc_ HB hw589_1), (hc_ HB hw589_2), (hc_ HB hw589_3), (hc_ HB hw589_4), (hc_ HB hw589_5), (hc_ HB hw589_6), (hc_ HB hw589_7)⟩ (fun hHeld => ?_)
             clear hK K
             refine norm_ (a' := ?_) ?_ ?_
             rotate_left
             ·show Act.put _ (some 52) _ = _
              simp only [Act.put, qa, qb, qc, i64_w, i32_w]
              rfl
             refine pure_ (i := 20) (N := some 53) (v := ?_) (a' := ?_) #[o,o,o,o,o,o,o,o,o,o,o,o,o,o,o,o,o,o,o,o,o,z] rfl rfl (any_of HT_.out (by kernel_rfl)) (fun _ _ _ h => h) (Or.inl ⟨by rfl, ?_⟩) ?_ ?_
             rotate_left
             ·intro w'
              go_simp
              with_reducible rfl
             rotate_left
             ·simp only [Act.put, qa, qb, qc, i64_w, i32_w]
              rfl
             refine pure_ (i := 21) (N := some 54) (v := ?_) (a' := ?_) #[o,o,o,o,o,o,o,o,o,o,o,o,o,o,o,o,o,o,o,o,o,o] rfl rfl (any_of HT_.out (by kernel_rfl)) (fun _ _ _ h => h) (Or.inl ⟨by rfl, ?_⟩) ?_ ?_
             rotate_left
             ·intro w'
              go_simp
              with_reducible rfl
             rotate_left
             ·simp only [Act.put, qa, qb, qc, i64_w, i32_w]
              rfl
             refine done_ (done_of HT_.out (by kernel_rfl)) ?_
             try go_wp2
             subst hji20
             go_meet
             case rel => exact ⟨_, (t590), (by first | rfl | (simp; done) | (simp [*]; done)), H', ⟨by have := HJ3.out; first | omega | exact Nat.le_refl _⟩, ⟨bB BK581.out⟩, ⟨bB BK582.out⟩, ⟨bB BK583.out⟩, ⟨sB HB.out⟩⟩
            ·rw [if_neg c33] at H
             exact absurd H (by simp)
           ·rw [if_neg c32] at H
            exact absurd H (by simp)
          ·rw [if_neg c31] at H
           exact absurd H (by simp)
         ·rw [if_neg c30] at H
          exact absurd H (by simp)
       ·rw [if_neg c27] at H
        have c27b0 : decide (0 ≤ t586) = false := decide_eq_false c27
        clear c27
        (first | rw [c27b0] | (simp only [i64_w, i32_w]; rw [c27b0]) | skip)
        have H' := Aside0.mk H
        clear H
        try go_wp2
        replace BK581 := am (blk_drew BK581.out)
        replace BK582 := am (blk_drew BK582.out)
        replace BK583 := am (blk_drew BK583.out)
        replace HB := am (below_drew1 HB.out)
        refine start_ (n := 22) (S := fun w' => True) (ds := []) #[z,z,z,z,z,z,z,z,z,z,z,z,z,z,z,z,z,z,z,z,z,z] (by kernel_rfl) rfl rfl trivial (fun hHeld => ?_); refine with_tabW impl_FastRule.tab6 impl_FastRule.bits6 (fun HT_ HW_ => ?_)
        generalize w26.drew = w37 at BK581 BK582 BK583 HB hHeld ⊢
        refine pure_ (i := 0) (N := some 33) (v := ?_) (a' := ?_) #[o,z,z,z,z,z,z,z,z,z,z,z,z,z,z,z,z,z,z,z,z,z] rfl rfl (any_of HT_.out (by kernel_rfl)) (fun _ _ _ h => h) (Or.inl ⟨by rfl, ?_⟩) ?_ ?_
        rotate_left
        ·intro w'
         go_simp
         with_reducible rfl
        rotate_left
        ·simp only [Act.put, qa, qb, qc, i64_w, i32_w]
         rfl
        refine pure_ (i := 1) (N := some 34) (v := ?_) (a' := ?_) #[o,o,z,z,z,z,z,z,z,z,z,z,z,z,z,z,z,z,z,z,z,z] rfl rfl (any_of HT_.out (by kernel_rfl)) (fun _ _ _ h => h) (Or.inl ⟨by rfl, ?_⟩) ?_ ?_
        rotate_left
        ·intro w'
         go_simp
         with_reducible rfl
        rotate_left
        ·simp only [Act.put, qa, qb, qc, i64_w, i32_w]
         rfl
        refine pure_ (i := 2) (N := some 35) (v := ?_) (a' := ?_) #[o,o,o,z,z,z,z,z,z,z,z,z,z,z,z,z,z,z,z,z,z,z] rfl rfl (any_of HT_.out (by kernel_rfl)) (fun _ _ _ h => h) (Or.inl ⟨by rfl, ?_⟩) ?_ ?_
        rotate_left
        ·intro w'
         go_simp
         with_reducible rfl
        rotate_left
        ·simp only [Act.put, qa, qb, qc, i64_w, i32_w]
         rfl
        refine pure_ (i := 3) (N := some 36) (v := undef) (a' := ?_) #[o,o,o,o,z,z,z,z,z,z,z,z,z,z,z,z,z,z,z,z,z,z] rfl rfl (any_of HT_.out (by kernel_rfl)) (fun _ _ _ h => h) (Or.inr ⟨by rfl, rfl⟩) ?_ ?_
        rotate_left
        ·simp only [Act.put, qa, qb, qc, i64_w, i32_w]
         rfl
        refine pure_ (i := 4) (N := some 37) (v := undef) (a' := ?_) #[o,o,o,o,o,z,z,z,z,z,z,z,z,z,z,z,z,z,z,z,z,z] rfl rfl (any_of HT_.out (by kernel_rfl)) (fun _ _ _ h => h) (Or.inr ⟨by rfl, rfl⟩) ?_ ?_
        rotate_left
        ·simp only [Act.put, qa, qb, qc, i64_w, i32_w]
         rfl
        refine pure_ (i := 5) (N := some 38) (v := undef) (a' := ?_) #[o,o,o,o,o,o,z,z,z,z,z,z,z,z,z,z,z,z,z,z,z,z] rfl rfl (any_of HT_.out (by kernel_rfl)) (fun _ _ _ h => h) (Or.inr ⟨by rfl, rfl⟩) ?_ ?_
        rotate_left
        ·simp only [Act.put, qa, qb, qc, i64_w, i32_w]
         rfl
        refine pure_ (i := 6) (N := some 39) (v := undef) (a' := ?_) #[o,o,o,o,o,o,o,z,z,z,z,z,z,z,z,z,z,z,z,z,z,z] rfl rfl (any_of HT_.out (by kernel_rfl)) (fun _ _ _ h => h) (Or.inr ⟨by rfl, rfl⟩) ?_ ?_
        rotate_left
        ·simp only [Act.put, qa, qb, qc, i64_w, i32_w]
         rfl
        refine pure_ (i := 7) (N := some 40) (v := undef) (a' := ?_) #[o,o,o,o,o,o,o,o,z,z,z,z,z,z,z,z,z,z,z,z,z,z] rfl rfl (any_of HT_.out (by kernel_rfl)) (fun _ _ _ h => h) (Or.inr ⟨by rfl, rfl⟩) ?_ ?_
        rotate_left
        ·simp only [Act.put, qa, qb, qc, i64_w, i32_w]
         rfl
        refine pure_ (i := 8) (N := some 41) (v := undef) (a' := ?_) #[o,o,o,o,o,o,o,o,o,z,z,z,z,z,z,z,z,z,z,z,z,z] rfl rfl (any_of HT_.out (by kernel_rfl)) (fun _ _ _ h => h) (Or.inr ⟨by rfl, rfl⟩) ?_ ?_
        rotate_left
        ·simp only [Act.put, qa, qb, qc, i64_w, i32_w]
         rfl
        refine pure_ (i := 9) (N := some 42) (v := undef) (a' := ?_) #[o,o,o,o,o,o,o,o,o,o,z,z,z,z,z,z,z,z,z,z,z,z] rfl rfl (any_of HT_.out (by kernel_rfl)) (fun _ _ _ h => h) (Or.inr ⟨by rfl, rfl⟩) ?_ ?_
        rotate_left
        ·simp only [Act.put, qa, qb, qc, i64_w, i32_w]
         rfl
        refine pure_ (i := 10) (N := some 43) (v := undef) (a' := ?_) #[o,o,o,o,o,o,o,o,o,o,o,z,z,z,z,z,z,z,z,z,z,z] rfl rfl (any_of HT_.out (by kernel_rfl)) (fun _ _ _ h => h) (Or.inr ⟨by rfl, rfl⟩) ?_ ?_
        rotate_left
        ·simp only [Act.put, qa, qb, qc, i64_w, i32_w]
         rfl
        refine pure_ (i := 11) (N := some 44) (v := undef) (a' := ?_) #[o,o,o,o,o,o,o,o,o,o,o,o,z,z,z,z,z,z,z,z,z,z] rfl rfl (any_of HT_.out (by kernel_rfl)) (fun _ _ _ h => h) (Or.inr ⟨by rfl, rfl⟩) ?_ ?_
        rotate_left
        ·simp only [Act.put, qa, qb, qc, i64_w, i32_w]
         rfl
        refine pure_ (i := 12) (N := some 45) (v := undef) (a' := ?_) #[o,o,o,o,o,o,o,o,o,o,o,o,o,z,z,z,z,z,z,z,z,z] rfl rfl (any_of HT_.out (by kernel_rfl)) (fun _ _ _ h => h) (Or.inr ⟨by rfl, rfl⟩) ?_ ?_
        rotate_left
        ·simp only [Act.put, qa, qb, qc, i64_w, i32_w]
         rfl
        refine pure_ (i := 13) (N := some 46) (v := undef) (a' := ?_) #[o,o,o,o,o,o,o,o,o,o,o,o,o,o,z,z,z,z,z,z,z,z] rfl rfl (any_of HT_.out (by kernel_rfl)) (fun _ _ _ h => h) (Or.inr ⟨by rfl, rfl⟩) ?_ ?_
        rotate_left
        ·simp only [Act.put, qa, qb, qc, i64_w, i32_w]
         rfl
        refine pure_ (i := 14) (N := some 47) (v := undef) (a' := ?_) #[o,o,o,o,o,o,o,o,o,o,o,o,o,o,o,z,z,z,z,z,z,z] rfl rfl (any_of HT_.out (by kernel_rfl)) (fun _ _ _ h => h) (Or.inr ⟨by rfl, rfl⟩) ?_ ?_
        rotate_left
        ·simp only [Act.put, qa, qb, qc, i64_w, i32_w]
         rfl
        refine pure_ (i := 15) (N := some 48) (v := undef) (a' := ?_) #[o,o,o,o,o,o,o,o,o,o,o,o,o,o,o,o,z,z,z,z,z,z] rfl rfl (any_of HT_.out (by kernel_rfl)) (fun _ _ _ h => h) (Or.inr ⟨by rfl, rfl⟩) ?_ ?_
        rotate_left
        ·simp only [Act.put, qa, qb, qc, i64_w, i32_w]
         rfl
        refine pure_ (i := 16) (N := some 49) (v := undef) (a' := ?_) #[o,o,o,o,o,o,o,o,o,o,o,o,o,o,o,o,o,z,z,z,z,z] rfl rfl (any_of HT_.out (by kernel_rfl)) (fun _ _ _ h => h) (Or.inr ⟨by rfl, rfl⟩) ?_ ?_
        rotate_left
        ·simp only [Act.put, qa, qb, qc, i64_w, i32_w]
         rfl
        refine pure_ (i := 17) (N := some 50) (v := undef) (a' := ?_) #[o,o,o,o,o,o,o,o,o,o,o,o,o,o,o,o,o,o,z,z,z,z] rfl rfl (any_of HT_.out (by kernel_rfl)) (fun _ _ _ h => h) (Or.inr ⟨by rfl, rfl⟩) ?_ ?_
        rotate_left
        ·simp only [Act.put, qa, qb, qc, i64_w, i32_w]
         rfl
        refine pure_ (i := 18) (N := some 51) (v := undef) (a' := ?_) #[o,o,o,o,o,o,o,o,o,o,o,o,o,o,o,o,o,o,o,z,z,z] rfl rfl (any_of HT_.out (by kernel_rfl)) (fun _ _ _ h => h) (Or.inr ⟨by rfl, rfl⟩) ?_ ?_
        rotate_left
        ·simp only [Act.put, qa, qb, qc, i64_w, i32_w]
         rfl
        refine pure_ (i := 19) (N := some 52) (v := undef) (a' := ?_) #[o,o,o,o,o,o,o,o,o,o,o,o,o,o,o,o,o,o,o,o,z,z] rfl rfl (any_of HT_.out (by kernel_rfl)) (fun _ _ _ h => h) (Or.inr ⟨by rfl, rfl⟩) ?_ ?_
        rotate_left
        ·simp only [Act.put, qa, qb, qc, i64_w, i32_w]
         rfl
        refine pure_ (i := 20) (N := some 53) (v := undef) (a' := ?_) #[o,o,o,o,o,o,o,o,o,o,o,o,o,o,o,o,o,o,o,o,o,z] rfl rfl (any_of HT_.out (by kernel_rfl)) (fun _ _ _ h => h) (Or.inr ⟨by rfl, rfl⟩) ?_ ?_
        rotate_left
        ·simp only [Act.put, qa, qb, qc, i64_w, i32_w]
         rfl
        refine pure_ (i := 21) (N := some 54) (v := ?_) (a' := ?_) #[o,o,o,o,o,o,o,o,o,o,o,o,o,o,o,o,o,o,o,o,o,o] rfl rfl (any_of HT_.out (by kernel_rfl)) (fun _ _ _ h => h) (Or.inl ⟨by rfl, ?_⟩) ?_ ?_
        rotate_left
        ·intro w'
         go_simp
         with_reducible rfl
        rotate_left
        ·simp only [Act.put, qa, qb, qc, i64_w, i32_w]
         rfl
        refine done_ (done_of HT_.out (by kernel_rfl)) ?_
        try go_wp2
        go_meet
        case rel => exact ⟨_, (false), (by first | rfl | (simp; done) | (simp [*]; done)), H', ⟨by have := HJ3.out; first | omega | exact Nat.le_refl _⟩, ⟨bB BK581.out⟩, ⟨bB BK582.out⟩, ⟨bB BK583.out⟩, ⟨sB HB.out⟩⟩
      case rest =>
       clear HC24
       try clear c2
       try clear p2
       try clear c3
       try clear c5
       try clear p5
       try clear q5
       try clear hx5
       try clear c27
       try clear c27b0
       try clear c28
       try clear c28b0
       try clear c30
       try clear c30b0
       try clear c31
       try clear c31b0
       try clear c32
       try clear c32b0
       try clear c33
       try clear c33b0
       try clear hx587_0
       try clear hx588_0
       try clear hx588_1
       try clear hx588_2
       try clear hx588_3
       try clear hx588_4
       try clear hx588_5
       try clear hx588_6
       try clear hx588_7
       try clear hx589_0
       try clear hx589_1
       try clear hx589_2
       try clear hx589_3
       try clear hx589_4
       try clear hx589_5
       try clear hx589_6
       try clear hx589_7
       try clear p587
       try clear p588
       try clear p589
       try clear q587
       try clear q588
       try clear q589
       obtain ⟨kq, x54_23, rfl, HA, HJ23, BK581, BK582, BK583, HB⟩ := hcut
       cases kq with
       | zero => exact absurd HA.out (by simp [impl_FastRule.j1])
       | succ kj23 =>
        have H := HA.out
        clear HA
        simp only [impl_FastRule.j1] at H
        by_cases c38 : x54_23 = true
        ·subst c38
         have H1 : (if 0 ≤ (ji20) then (if (ji20) < (l0_1.length : Int) then (if 0 ≤ t586 then (if t586 < ((rd_L7 l0_1 (ji20)).length : Int) then (some ((rd_T37 (rd_L7 l0_1 (ji20)) t586).f0, (rd_T37 (rd_L7 l0_1 (ji20)) t586).f1, (rd_T37 (rd_L7 l0_1 (ji20)) t586).f2.f0, (rd_T37 (rd_L7 l0_1 (ji20)) t586).f2.f1, (rd_T37 (rd_L7 l0_1 (ji20)) t586).f3, (rd_T37 (rd_L7 l0_1 (ji20)) t586).f4, (rd_T37 (rd_L7 l0_1 (ji20)) t586).f5.f0, (rd_T37 (rd_L7 l0_1 (ji20)) t586).f5.f1, true)) else (none)) else (none)) else (none)) else (none)) = some (r1, r2, r3, r4, r5, r6, r7, r8, r9) := by rw [if_pos rfl] at H; exact H
         clear H
         have H := H1
         clear H1
         by_cases c39 : 0 ≤ (ji20)
         ·rw [if_pos c39] at H
          have c39b0 : decide (0 ≤ (ji20)) = true := decide_eq_true c39
          clear c39
          by_cases c40 : (ji20) < (l0_1.length : Int)
          ·rw [if_pos c40] at H
           have c40b0 : decide ((ji20) < (l0_1.length : Int)) = true := decide_eq_true c40
           clear c40
           by_cases c41 : 0 ≤ t586
           ·rw [if_pos c41] at H
            have c41b0 : decide (0 ≤ t586) = true := decide_eq_true c41
            clear c41
            by_cases c42 : t586 < ((rd_L7 l0_1 (ji20)).length : Int)
            ·rw [if_pos c42] at H
             have c42b0 : decide (t586 < ((rd_L7 l0_1 (ji20)).length : Int)) = true := decide_eq_true c42
             clear c42
             simp only [Option.some.injEq, Prod.mk.injEq] at H
             obtain ⟨rfl, rfl, rfl, rfl, rfl, rfl, rfl, rfl, rfl⟩ := H
             have hnb43 := NB581_582.out
             have hnc43 := NB582_581.out
             have hnb44 := NB581_583.out
             have hnc44 := NB583_581.out
             have hcz45_0 : wc.cell? ⟨gb581, 0, none⟩ = some (.slice A0_0 l0_0.length c0_0) := (blk_cell BK581.out 0).trans rfl
             have hcz45_1 : wc.cell? ⟨gb581, 1, none⟩ = some (.slice (some ad585) l0_1.length c0_1) := (blk_cell BK581.out 1).trans rfl
             have hfz45_0 := blk_frozen BK581.out 0
             have hfz45_1 := blk_frozen BK581.out 1
             have p591 : 0 ≤ ((ji20) : Int) := of_decide_eq_true (by first | (with_reducible assumption) | assumption)
             have q591 : (ji20) < (l0_1.length : Int) := of_decide_eq_true (by first | (with_reducible assumption) | assumption)
             obtain ⟨ad591, A591_0, c591_0, e591, hx591_0, hl591_0, hi591_0⟩ := at_L7 HR0_1.out (ji20) p591 q591
             obtain rfl : ad585 = ad591 := (by injection e591)
             replace hx591_0 := hc_ HB hx591_0
             have HR591_0 := Aside0.mk hi591_0
             have HC591_0 := Aside0.mk hl591_0
             clear hi591_0 hl591_0
             replace p591 := eq_true p591
             replace q591 := eq_true q591
             have p592 : 0 ≤ (t586 : Int) := of_decide_eq_true (by first | (with_reducible assumption) | assumption)
             have q592 : t586 < ((rd_L7 l0_1 (ji20)).length : Int) := of_decide_eq_true (by first | (with_reducible assumption) | assumption)
             obtain ⟨ad592, e592, hx592_0, hx592_1, hx592_2, hx592_3, hx592_4, hx592_5, hx592_6, hx592_7⟩ := at_T37 HR591_0.out t586 p592 q592
             cases e592
             replace hx592_0 := hc_ HB hx592_0
             replace hx592_1 := hc_ HB hx592_1
             replace hx592_2 := hc_ HB hx592_2
             replace hx592_3 := hc_ HB hx592_3
             replace hx592_4 := hc_ HB hx592_4
             replace hx592_5 := hc_ HB hx592_5
             replace hx592_6 := hc_ HB hx592_6
             replace hx592_7 := hc_ HB hx592_7
             replace p592 := eq_true p592
             replace q592 := eq_true q592
             have hnb46 := NB583_582.out
             have hnc46 := NB582_583.out
             have hcz47_0 : wc.cell? ⟨gb583, 0, none⟩ = some (.int .i64 0) := (blk_cell BK583.out 0).trans rfl
             have hcz47_1 : wc.cell? ⟨gb583, 1, none⟩ = some (.int .i64 0) := (blk_cell BK583.out 1).trans rfl
             have hcz47_2 : wc.cell? ⟨gb583, 2, none⟩ = some (.int .i64 0) := (blk_cell BK583.out 2).trans rfl
             have hcz47_3 : wc.cell? ⟨gb583, 3, none⟩ = some (.int .i64 0) := (blk_cell BK583.out 3).trans rfl
             have hcz47_4 : wc.cell? ⟨gb583, 4, none⟩ = some (.int .i64 0) := (blk_cell BK583.out 4).trans rfl
             have hcz47_5 : wc.cell? ⟨gb583, 5, none⟩ = some (.int .i64 0) := (blk_cell BK583.out 5).trans rfl
             have hcz47_6 : wc.cell? ⟨gb583, 6, none⟩ = some (.int .i64 0) := (blk_cell BK583.out 6).trans rfl
             have hcz47_7 : wc.cell? ⟨gb583, 7, none⟩ = some (.int .i64 0) := (blk_cell BK583.out 7).trans rfl
             have hfz47_0 := blk_frozen BK583.out 0
             have hfz47_1 := blk_frozen BK583.out 1
             have hfz47_2 := blk_frozen BK583.out 2
             have hfz47_3 := blk_frozen BK583.out 3
             have hfz47_4 := blk_frozen BK583.out 4
             have hfz47_5 := blk_frozen BK583.out 5
             have hfz47_6 := blk_frozen BK583.out 6
             have hfz47_7 := blk_frozen BK583.out 7
             go_wp2
             refine bodyPost_ret (results_ct rfl _ _ gb583 37 #[.int .i64 ((rd_T37 (rd_L7 l0_1 (ji20)) t586).f0), .int .i64 ((rd_T37 (rd_L7 l0_1 (ji20)) t586).f1), .int .i64 ((rd_T37 (rd_L7 l0_1 (ji20)) t586).f2.f0), .int .i64 ((rd_T37 (rd_L7 l0_1 (ji20)) t586).f2.f1), .int .i64 ((rd_T37 (rd_L7 l0_1 (ji20)) t586).f3), .int .i64 ((rd_T37 (rd_L7 l0_1 (ji20)) t586).f4), .int .i64 ((rd_T37 (rd_L7 l0_1 (ji20)) t586).f5.f0), .int .i64 ((rd_T37 (rd_L7 l0_1 (ji20)) t586).f5.f1)] (0, 0) _ rfl (by refine bB ?_; refine blk_put (cs := #[.int .i64 ((rd_T37 (rd_L7 l0_1 (ji20)) t586).f0), .int .i64 ((rd_T37 (rd_L7 l0_1 (ji20)) t586).f1), .int .i64 ((rd_T37 (rd_L7 l0_1 (ji20)) t586).f2.f0), .int .i64 ((rd_T37 (rd_L7 l0_1 (ji20)) t586).f2.f1), .int .i64 ((rd_T37 (rd_L7 l0_1 (ji20)) t586).f3), .int .i64 ((rd_T37 (rd_L7 l0_1 (ji20)) t586).f4), .int .i64 ((rd_T37 (rd_L7 l0_1 (ji20)) t586).f5.f0), .int .i64 0]) ?_ 7 _ rfl; refine bB ?_; refine blk_put (cs := #[.int .i64 ((rd_T37 (rd_L7 l0_1 (ji20)) t586).f0), .int .i64 ((rd_T37 (rd_L7 l0_1 (ji20)) t586).f1), .int .i64 ((rd_T37 (rd_L7 l0_1 (ji20)) t586).f2.f0), .int .i64 ((rd_T37 (rd_L7 l0_1 (ji20)) t586).f2.f1), .int .i64 ((rd_T37 (rd_L7 l0_1 (ji20)) t586).f3), .int .i64 ((rd_T37 (rd_L7 l0_1 (ji20)) t586).f4), .int .i64 0, .int .i64 0]) ?_ 6 _ rfl; refine bB ?_; refine blk_put (cs := #[.int .i64 ((rd_T37 (rd_L7 l0_1 (ji20)) t586).f0), .int .i64 ((rd_T37 (rd_L7 l0_1 (ji20)) t586).f1), .int .i64 ((rd_T37 (rd_L7 l0_1 (ji20)) t586).f2.f0), .int .i64 ((rd_T37 (rd_L7 l0_1 (ji20)) t586).f2.f1), .int .i64 ((rd_T37 (rd_L7 l0_1 (ji20)) t586).f3), .int .i64 0, .int .i64 0, .int .i64 0]) ?_ 5 _ rfl; refine bB ?_; refine blk_put (cs := #[.int .i64 ((rd_T37 (rd_L7 l0_1 (ji20)) t586).f0), .int .i64 ((rd_T37 (rd_L7 l0_1 (ji20)) t586).f1), .int .i64 ((rd_T37 (rd_L7 l0_1 (ji20)) t586).f2.f0), .int .i64 ((rd_T37 (rd_L7 l0_1 (ji20)) t586).f2.f1), .int .i64 0, .int .i64 0, .int .i64 0, .int .i64 0]) ?_ 4 _ rfl; refine bB ?_; refine blk_put (cs := #[.int .i64 ((rd_T37 (rd_L7 l0_1 (ji20)) t586).f0), .int .i64 ((rd_T37 (rd_L7 l0_1 (ji20)) t586).f1), .int .i64 ((rd_T37 (rd_L7 l0_1 (ji20)) t586).f2.f0), .int .i64 0, .int .i64 0, .int .i64 0, .int .i64 0, .int .i64 0]) ?_ 3 _ rfl; refine bB ?_; refine blk_put (cs := #[.int .i64 ((rd_T37 (rd_L7 l0_1 (ji20)) t586).f0), .int .i64 ((rd_T37 (rd_L7 l0_1 (ji20)) t586).f1), .int .i64 0, .int .i64 0, .int .i64 0, .int .i64 0, .int .i64 0, .int .i64 0]) ?_ 2 _ rfl; refine bB ?_; refine blk_put (cs := #[.int .i64 ((rd_T37 (rd_L7 l0_1 (ji20)) t586).f0), .int .i64 0, .int .i64 0, .int .i64 0, .int .i64 0, .int .i64 0, .int .i64 0, .int .i64 0]) ?_ 1 _ rfl; refine bB ?_; refine blk_put (cs := #[.int .i64 0, .int .i64 0, .int .i64 0, .int .i64 0, .int .i64 0, .int .i64 0, .int .i64 0, .int .i64 0]) ?_ 0 _ rfl; refine bB ?_; exact BK583.out) Try.underlying37 rfl (by kernel_rfl)) rfl ?_
             exact ⟨by first | rfl | (simp [errW_none, errW_some] <;> rfl) | (simp only [← hji20]; first | rfl | (simp [errW_none, errW_some] <;> rfl)) | (simp [*, errW_none, errW_some] <;> rfl), sB HB.out⟩
            ·rw [if_neg c42] at H
             exact absurd H (by simp)
           ·rw [if_neg c41] at H
            exact absurd H (by simp)
          ·rw [if_neg c40] at H
           exact absurd H (by simp)
         ·rw [if_neg c39] at H
          exact absurd H (by simp)
        ·replace c38 := Bool.eq_false_iff.mpr c38
         subst c38
         have H1 : (if t584 < 0 then (some (0, 0, 0, 0, 0, 0, 0, 0, false)) else (if 0 ≤ t584 then (if t584 < (l0_0.length : Int) then (some ((rd_T37 l0_0 t584).f0, (rd_T37 l0_0 t584).f1, (rd_T37 l0_0 t584).f2.f0, (rd_T37 l0_0 t584).f2.f1, (rd_T37 l0_0 t584).f3, (rd_T37 l0_0 t584).f4, (rd_T37 l0_0 t584).f5.f0, (rd_T37 l0_0 t584).f5.f1, true)) else (none)) else (none))) = some (r1, r2, r3, r4, r5, r6, r7, r8, r9) := by rw [if_neg (show ¬ (false = true) by decide)] at H; exact H
         clear H
         have H := H1
         clear H1
         by_cases c48 : t584 < 0
         ·rw [if_pos c48] at H
          have c48b0 : decide (t584 < 0) = true := decide_eq_true c48
          clear c48
          simp only [Option.some.injEq, Prod.mk.injEq] at H
          obtain ⟨rfl, rfl, rfl, rfl, rfl, rfl, rfl, rfl, rfl⟩ := H
          have hnb49 := NB583_581.out
          have hnc49 := NB581_583.out
          have hnb50 := NB583_582.out
          have hnc50 := NB582_583.out
          have hcz51_0 : wc.cell? ⟨gb583, 0, none⟩ = some (.int .i64 0) := (blk_cell BK583.out 0).trans rfl
          have hcz51_1 : wc.cell? ⟨gb583, 1, none⟩ = some (.int .i64 0) := (blk_cell BK583.out 1).trans rfl
          have hcz51_2 : wc.cell? ⟨gb583, 2, none⟩ = some (.int .i64 0) := (blk_cell BK583.out 2).trans rfl
          have hcz51_3 : wc.cell? ⟨gb583, 3, none⟩ = some (.int .i64 0) := (blk_cell BK583.out 3).trans rfl
          have hcz51_4 : wc.cell? ⟨gb583, 4, none⟩ = some (.int .i64 0) := (blk_cell BK583.out 4).trans rfl
          have hcz51_5 : wc.cell? ⟨gb583, 5, none⟩ = some (.int .i64 0) := (blk_cell BK583.out 5).trans rfl
          have hcz51_6 : wc.cell? ⟨gb583, 6, none⟩ = some (.int .i64 0) := (blk_cell BK583.out 6).trans rfl
          have hcz51_7 : wc.cell? ⟨gb583, 7, none⟩ = some (.int .i64 0) := (blk_cell BK583.out 7).trans rfl
          have hfz51_0 := blk_frozen BK583.out 0
          have hfz51_1 := blk_frozen BK583.out 1
          have hfz51_2 := blk_frozen BK583.out 2
          have hfz51_3 := blk_frozen BK583.out 3
          have hfz51_4 := blk_frozen BK583.out 4
          have hfz51_5 := blk_frozen BK583.out 5
          have hfz51_6 := blk_frozen BK583.out 6
          have hfz51_7 := blk_frozen BK583.out 7
          go_wp2
          refine bodyPost_ret (results_ct rfl _ _ gb583 37 #[.int .i64 0, .int .i64 0, .int .i64 0, .int .i64 0, .int .i64 0, .int .i64 0, .int .i64 0, .int .i64 0] (0, 0) _ rfl (by refine bB ?_; refine blk_put (cs := #[.int .i64 0, .int .i64 0, .int .i64 0, .int .i64 0, .int .i64 0, .int .i64 0, .int .i64 0, .int .i64 0]) ?_ 7 _ rfl; refine bB ?_; refine blk_put (cs := #[.int .i64 0, .int .i64 0, .int .i64 0, .int .i64 0, .int .i64 0, .int .i64 0, .int .i64 0, .int .i64 0]) ?_ 6 _ rfl; refine bB ?_; refine blk_put (cs := #[.int .i64 0, .int .i64 0, .int .i64 0, .int .i64 0, .int .i64 0, .int .i64 0, .int .i64 0, .int .i64 0]) ?_ 5 _ rfl; refine bB ?_; refine blk_put (cs := #[.int .i64 0, .int .i64 0, .int .i64 0, .int .i64 0, .int .i64 0, .int .i64 0, .int .i64 0, .int .i64 0]) ?_ 4 _ rfl; refine bB ?_; refine blk_put (cs := #[.int .i64 0, .int .i64 0, .int .i64 0, .int .i64 0, .int .i64 0, .int .i64 0, .int .i64 0, .int .i64 0]) ?_ 3 _ rfl; refine bB ?_; refine blk_put (cs := #[.int .i64 0, .int .i64 0, .int .i64 0, .int .i64 0, .int .i64 0, .int .i64 0, .int .i64 0, .int .i64 0]) ?_ 2 _ rfl; refine bB ?_; refine blk_put (cs := #[.int .i64 0, .int .i64 0, .int .i64 0, .int .i64 0, .int .i64 0, .int .i64 0, .int .i64 0, .int .i64 0]) ?_ 1 _ rfl; refine bB ?_; refine blk_put (cs := #[.int .i64 0, .int .i64 0, .int .i64 0, .int .i64 0, .int .i64 0, .int .i64 0, .int .i64 0, .int .i64 0]) ?_ 0 _ rfl; refine bB ?_; exact BK583.out) Try.underlying37 rfl (by kernel_rfl)) rfl ?_
          exact ⟨by first | rfl | (simp [errW_none, errW_some] <;> rfl) | (simp only [← hji20]; first | rfl | (simp [errW_none, errW_some] <;> rfl)) | (simp [*, errW_none, errW_some] <;> rfl), sB HB.out⟩
         ·rw [if_neg c48] at H
          have c48b0 : decide (t584 < 0) = false := decide_eq_false c48
          clear c48
          by_cases c52 : 0 ≤ t584
          ·rw [if_pos c52] at H
           have c52b0 : decide (0 ≤ t584) = true := decide_eq_true c52
           clear c52
           by_cases c53 : t584 < (l0_0.length : Int)
           ·rw [if_pos c53] at H
            have c53b0 : decide (t584 < (l0_0.length : Int)) = true := decide_eq_true c53
            clear c53
            simp only [Option.some.injEq, Prod.mk.injEq] at H
            obtain ⟨rfl, rfl, rfl, rfl, rfl, rfl, rfl, rfl, rfl⟩ := H
            have hnb54 := NB581_582.out
            have hnc54 := NB582_581.out
            have hnb55 := NB581_583.out
            have hnc55 := NB583_581.out
            have hcz56_0 : wc.cell? ⟨gb581, 0, none⟩ = some (.slice A0_0 l0_0.length c0_0) := (blk_cell BK581.out 0).trans rfl
            have hcz56_1 : wc.cell? ⟨gb581, 1, none⟩ = some (.slice (some ad585) l0_1.length c0_1) := (blk_cell BK581.out 1).trans rfl
            have hfz56_0 := blk_frozen BK581.out 0
            have hfz56_1 := blk_frozen BK581.out 1
            have p593 : 0 ≤ (t584 : Int) := of_decide_eq_true (by first | (with_reducible assumption) | assumption)
            have q593 : t584 < (l0_0.length : Int) := of_decide_eq_true (by first | (with_reducible assumption) | assumption)
            obtain ⟨ad593, e593, hx593_0, hx593_1, hx593_2, hx593_3, hx593_4, hx593_5, hx593_6, hx593_7⟩ := at_T37 HR0_0.out t584 p593 q593
            cases e593
            replace hx593_0 := hc_ HB hx593_0
            replace hx593_1 := hc_ HB hx593_1
            replace hx593_2 := hc_ HB hx593_2
            replace hx593_3 := hc_ HB hx593_3
            replace hx593_4 := hc_ HB hx593_4
            replace hx593_5 := hc_ HB hx593_5
            replace hx593_6 := hc_ HB hx593_6
            replace hx593_7 := hc_ HB hx593_7
            replace p593 := eq_true p593
            replace q593 := eq_true q593
            have hnb57 := NB583_582.out
            have hnc57 := NB582_583.out
            have hcz58_0 : wc.cell? ⟨gb583, 0, none⟩ = some (.int .i64 0) := (blk_cell BK583.out 0).trans rfl
            have hcz58_1 : wc.cell? ⟨gb583, 1, none⟩ = some (.int .i64 0) := (blk_cell BK583.out 1).trans rfl
            have hcz58_2 : wc.cell? ⟨gb583, 2, none⟩ = some (.int .i64 0) := (blk_cell BK583.out 2).trans rfl
            have hcz58_3 : wc.cell? ⟨gb583, 3, none⟩ = some (.int .i64 0) := (blk_cell BK583.out 3).trans rfl
            have hcz58_4 : wc.cell? ⟨gb583, 4, none⟩ = some (.int .i64 0) := (blk_cell BK583.out 4).trans rfl
            have hcz58_5 : wc.cell? ⟨gb583, 5, none⟩ = some (.int .i64 0) := (blk_cell BK583.out 5).trans rfl
            have hcz58_6 : wc.cell? ⟨gb583, 6, none⟩ = some (.int .i64 0) := (blk_cell BK583.out 6).trans rfl
            have hcz58_7 : wc.cell? ⟨gb583, 7, none⟩ = some (.int .i64 0) := (blk_cell BK583.out 7).trans rfl
            have hfz58_0 := blk_frozen BK583.out 0
            have hfz58_1 := blk_frozen BK583.out 1
            have hfz58_2 := blk_frozen BK583.out 2
            have hfz58_3 := blk_frozen BK583.out 3
            have hfz58_4 := blk_frozen BK583.out 4
            have hfz58_5 := blk_frozen BK583.out 5
            have hfz58_6 := blk_frozen BK583.out 6
            have hfz58_7 := blk_frozen BK583.out 7
            go_wp2
            refine bodyPost_ret (results_ct rfl _ _ gb583 37 #[.int .i64 ((rd_T37 l0_0 t584).f0), .int .i64 ((rd_T37 l0_0 t584).f1), .int .i64 ((rd_T37 l0_0 t584).f2.f0), .int .i64 ((rd_T37 l0_0 t584).f2.f1), .int .i64 ((rd_T37 l0_0 t584).f3), .int .i64 ((rd_T37 l0_0 t584).f4), .int .i64 ((rd_T37 l0_0 t584).f5.f0), .int .i64 ((rd_T37 l0_0 t584).f5.f1)] (0, 0) _ rfl (by refine bB ?_; refine blk_put (cs := #[.int .i64 ((rd_T37 l0_0 t584).f0), .int .i64 ((rd_T37 l0_0 t584).f1), .int .i64 ((rd_T37 l0_0 t584).f2.f0), .int .i64 ((rd_T37 l0_0 t584).f2.f1), .int .i64 ((rd_T37 l0_0 t584).f3), .int .i64 ((rd_T37 l0_0 t584).f4), .int .i64 ((rd_T37 l0_0 t584).f5.f0), .int .i64 0]) ?_ 7 _ rfl; refine bB ?_; refine blk_put (cs := #[.int .i64 ((rd_T37 l0_0 t584).f0), .int .i64 ((rd_T37 l0_0 t584).f1), .int .i64 ((rd_T37 l0_0 t584).f2.f0), .int .i64 ((rd_T37 l0_0 t584).f2.f1), .int .i64 ((rd_T37 l0_0 t584).f3), .int .i64 ((rd_T37 l0_0 t584).f4), .int .i64 0, .int .i64 0]) ?_ 6 _ rfl; refine bB ?_; refine blk_put (cs := #[.int .i64 ((rd_T37 l0_0 t584).f0), .int .i64 ((rd_T37 l0_0 t584).f1), .int .i64 ((rd_T37 l0_0 t584).f2.f0), .int .i64 ((rd_T37 l0_0 t584).f2.f1), .int .i64 ((rd_T37 l0_0 t584).f3), .int .i64 0, .int .i64 0, .int .i64 0]) ?_ 5 _ rfl; refine bB ?_; refine blk_put (cs := #[.int .i64 ((rd_T37 l0_0 t584).f0), .int .i64 ((rd_T37 l0_0 t584).f1), .int .i64 ((rd_T37 l0_0 t584).f2.f0), .int .i64 ((rd_T37 l0_0 t584).f2.f1), .int .i64 0, .int .i64 0, .int .i64 0, .int .i64 0]) ?_ 4 _ rfl; refine bB ?_; refine blk_put (cs := #[.int .i64 ((rd_T37 l0_0 t584).f0), .int .i64 ((rd_T37 l0_0 t584).f1), .int .i64 ((rd_T37 l0_0 t584).f2.f0), .int .i64 0, .int .i64 0, .int .i64 0, .int .i64 0, .int .i64 0]) ?_ 3 _ rfl; refine bB ?_; refine blk_put (cs := #[.int .i64 ((rd_T37 l0_0 t584).f0), .int .i64 ((rd_T37 l0_0 t584).f1), .int .i64 0, .int .i64 0, .int .i64 0, .int .i64 0, .int .i64 0, .int .i64 0]) ?_ 2 _ rfl; refine bB ?_; refine blk_put (cs := #[.int .i64 ((rd_T37 l0_0 t584).f0), .int .i64 0, .int .i64 0, .int .i64 0, .int .i64 0, .int .i64 0, .int .i64 0, .int .i64 0]) ?_ 1 _ rfl; refine bB ?_; refine blk_put (cs := #[.int .i64 0, .int .i64 0, .int .i64 0, .int .i64 0, .int .i64 0, .int .i64 0, .int .i64 0, .int .i64 0]) ?_ 0 _ rfl; refine bB ?_; exact BK583.out) Try.underlying37 rfl (by kernel_rfl)) rfl ?_
            exact ⟨by first | rfl | (simp [errW_none, errW_some] <;> rfl) | (simp only [← hji20]; first | rfl | (simp [errW_none, errW_some] <;> rfl)) | (simp [*, errW_none, errW_some] <;> rfl), sB HB.out⟩
           ·rw [if_neg c53] at H
            exact absurd H (by simp)
          ·rw [if_neg c52] at H
           exact absurd H (by simp)
     ·rw [if_neg c22] at H
      exact absurd H (by simp)
    ·rw [if_neg c21] at H
     exact absurd H (by simp)
   ·replace c19 := Bool.eq_false_iff.mpr c19
    subst c19
    have H1 : (if t584 < 0 then (some (0, 0, 0, 0, 0, 0, 0, 0, false)) else (if 0 ≤ t584 then (if t584 < (l0_0.length : Int) then (some ((rd_T37 l0_0 t584).f0, (rd_T37 l0_0 t584).f1, (rd_T37 l0_0 t584).f2.f0, (rd_T37 l0_0 t584).f2.f1, (rd_T37 l0_0 t584).f3, (rd_T37 l0_0 t584).f4, (rd_T37 l0_0 t584).f5.f0, (rd_T37 l0_0 t584).f5.f1, true)) else (none)) else (none))) = some (r1, r2, r3, r4, r5, r6, r7, r8, r9) := by rw [if_neg (show ¬ (false = true) by decide)] at H; exact H
    clear H
    have H := H1
    clear H1
    by_cases c59 : t584 < 0
    ·rw [if_pos c59] at H
     have c59b0 : decide (t584 < 0) = true := decide_eq_true c59
     clear c59
     simp only [Option.some.injEq, Prod.mk.injEq] at H
     obtain ⟨rfl, rfl, rfl, rfl, rfl, rfl, rfl, rfl, rfl⟩ := H
     have hnb60 := NB583_581.out
     have hnc60 := NB581_583.out
     have hnb61 := NB583_582.out
     have hnc61 := NB582_583.out
     have hcz62_0 : wc.cell? ⟨gb583, 0, none⟩ = some (.int .i64 0) := (blk_cell BK583.out 0).trans rfl
     have hcz62_1 : wc.cell? ⟨gb583, 1, none⟩ = some (.int .i64 0) := (blk_cell BK583.out 1).trans rfl
     have hcz62_2 : wc.cell? ⟨gb583, 2, none⟩ = some (.int .i64 0) := (blk_cell BK583.out 2).trans rfl
     have hcz62_3 : wc.cell? ⟨gb583, 3, none⟩ = some (.int .i64 0) := (blk_cell BK583.out 3).trans rfl
     have hcz62_4 : wc.cell? ⟨gb583, 4, none⟩ = some (.int .i64 0) := (blk_cell BK583.out 4).trans rfl
     have hcz62_5 : wc.cell? ⟨gb583, 5, none⟩ = some (.int .i64 0) := (blk_cell BK583.out 5).trans rfl
     have hcz62_6 : wc.cell? ⟨gb583, 6, none⟩ = some (.int .i64 0) := (blk_cell BK583.out 6).trans rfl
     have hcz62_7 : wc.cell? ⟨gb583, 7, none⟩ = some (.int .i64 0) := (blk_cell BK583.out 7).trans rfl
     have hfz62_0 := blk_frozen BK583.out 0
     have hfz62_1 := blk_frozen BK583.out 1
     have hfz62_2 := blk_frozen BK583.out 2
     have hfz62_3 := blk_frozen BK583.out 3
     have hfz62_4 := blk_frozen BK583.out 4
     have hfz62_5 := blk_frozen BK583.out 5
     have hfz62_6 := blk_frozen BK583.out 6
     have hfz62_7 := blk_frozen BK583.out 7
     go_wp2
     refine bodyPost_ret (results_ct rfl _ _ gb583 37 #[.int .i64 0, .int .i64 0, .int .i64 0, .int .i64 0, .int .i64 0, .int .i64 0, .int .i64 0, .int .i64 0] (0, 0) _ rfl (by refine bB ?_; refine blk_put (cs := #[.int .i64 0, .int .i64 0, .int .i64 0, .int .i64 0, .int .i64 0, .int .i64 0, .int .i64 0, .int .i64 0]) ?_ 7 _ rfl; refine bB ?_; refine blk_put (cs := #[.int .i64 0, .int .i64 0, .int .i64 0, .int .i64 0, .int .i64 0, .int .i64 0, .int .i64 0, .int .i64 0]) ?_ 6 _ rfl; refine bB ?_; refine blk_put (cs := #[.int .i64 0, .int .i64 0, .int .i64 0, .int .i64 0, .int .i64 0, .int .i64 0, .int .i64 0, .int .i64 0]) ?_ 5 _ rfl; refine bB ?_; refine blk_put (cs := #[.int .i64 0, .int .i64 0, .int .i64 0, .int .i64 0, .int .i64 0, .int .i64 0, .int .i64 0, .int .i64 0]) ?_ 4 _ rfl; refine bB ?_; refine blk_put (cs := #[.int .i64 0, .int .i64 0, .int .i64 0, .int .i64 0, .int .i64 0, .int .i64 0, .int .i64 0, .int .i64 0]) ?_ 3 _ rfl; refine bB ?_; refine blk_put (cs := #[.int .i64 0, .int .i64 0, .int .i64 0, .int .i64 0, .int .i64 0, .int .i64 0, .int .i64 0, .int .i64 0]) ?_ 2 _ rfl; refine bB ?_; refine blk_put (cs := #[.int .i64 0, .int .i64 0, .int .i64 0, .int .i64 0, .int .i64 0, .int .i64 0, .int .i64 0, .int .i64 0]) ?_ 1 _ rfl; refine bB ?_; refine blk_put (cs := #[.int .i64 0, .int .i64 0, .int .i64 0, .int .i64 0, .int .i64 0, .int .i64 0, .int .i64 0, .int .i64 0]) ?_ 0 _ rfl; refine bB ?_; exact BK583.out) Try.underlying37 rfl (by kernel_rfl)) rfl ?_
     exact ⟨by first | rfl | (simp [errW_none, errW_some] <;> rfl) | (simp [*, errW_none, errW_some] <;> rfl), sB HB.out⟩
    ·rw [if_neg c59] at H
     have c59b0 : decide (t584 < 0) = false := decide_eq_false c59
     clear c59
     by_cases c63 : 0 ≤ t584
     ·rw [if_pos c63] at H
      have c63b0 : decide (0 ≤ t584) = true := decide_eq_true c63
      clear c63
      by_cases c64 : t584 < (l0_0.length : Int)
      ·rw [if_pos c64] at H
       have c64b0 : decide (t584 < (l0_0.length : Int)) = true := decide_eq_true c64
       clear c64
       simp only [Option.some.injEq, Prod.mk.injEq] at H
       obtain ⟨rfl, rfl, rfl, rfl, rfl, rfl, rfl, rfl, rfl⟩ := H
       have hnb65 := NB581_582.out
       have hnc65 := NB582_581.out
       have hnb66 := NB581_583.out
       have hnc66 := NB583_581.out
       have hcz67_0 : wc.cell? ⟨gb581, 0, none⟩ = some (.slice A0_0 l0_0.length c0_0) := (blk_cell BK581.out 0).trans rfl
       have hcz67_1 : wc.cell? ⟨gb581, 1, none⟩ = some (.slice A0_1 l0_1.length c0_1) := (blk_cell BK581.out 1).trans rfl
       have hfz67_0 := blk_frozen BK581.out 0
       have hfz67_1 := blk_frozen BK581.out 1
       have p594 : 0 ≤ (t584 : Int) := of_decide_eq_true (by first | (with_reducible assumption) | assumption)
       have q594 : t584 < (l0_0.length : Int) := of_decide_eq_true (by first | (with_reducible assumption) | assumption)
       obtain ⟨ad594, e594, hx594_0, hx594_1, hx594_2, hx594_3, hx594_4, hx594_5, hx594_6, hx594_7⟩ := at_T37 HR0_0.out t584 p594 q594
       cases e594
       replace hx594_0 := hc_ HB hx594_0
       replace hx594_1 := hc_ HB hx594_1
       replace hx594_2 := hc_ HB hx594_2
       replace hx594_3 := hc_ HB hx594_3
       replace hx594_4 := hc_ HB hx594_4
       replace hx594_5 := hc_ HB hx594_5
       replace hx594_6 := hc_ HB hx594_6
       replace hx594_7 := hc_ HB hx594_7
       replace p594 := eq_true p594
       replace q594 := eq_true q594
       have hnb68 := NB583_582.out
       have hnc68 := NB582_583.out
       have hcz69_0 : wc.cell? ⟨gb583, 0, none⟩ = some (.int .i64 0) := (blk_cell BK583.out 0).trans rfl
       have hcz69_1 : wc.cell? ⟨gb583, 1, none⟩ = some (.int .i64 0) := (blk_cell BK583.out 1).trans rfl
       have hcz69_2 : wc.cell? ⟨gb583, 2, none⟩ = some (.int .i64 0) := (blk_cell BK583.out 2).trans rfl
       have hcz69_3 : wc.cell? ⟨gb583, 3, none⟩ = some (.int .i64 0) := (blk_cell BK583.out 3).trans rfl
       have hcz69_4 : wc.cell? ⟨gb583, 4, none⟩ = some (.int .i64 0) := (blk_cell BK583.out 4).trans rfl
       have hcz69_5 : wc.cell? ⟨gb583, 5, none⟩ = some (.int .i64 0) := (blk_cell BK583.out 5).trans rfl
       have hcz69_6 : wc.cell? ⟨gb583, 6, none⟩ = some (.int .i64 0) := (blk_cell BK583.out 6).trans rfl
       have hcz69_7 : wc.cell? ⟨gb583, 7, none⟩ = some (.int .i64 0) := (blk_cell BK583.out 7).trans rfl
       have hfz69_0 := blk_frozen BK583.out 0
       have hfz69_1 := blk_frozen BK583.out 1
       have hfz69_2 := blk_frozen BK583.out 2
       have hfz69_3 := blk_frozen BK583.out 3
       have hfz69_4 := blk_frozen BK583.out 4
       have hfz69_5 := blk_frozen BK583.out 5
       have hfz69_6 := blk_frozen BK583.out 6
       have hfz69_7 := blk_frozen BK583.out 7
       go_wp2
       refine bodyPost_ret (results_ct rfl _ _ gb583 37 #[.int .i64 ((rd_T37 l0_0 t584).f0), .int .i64 ((rd_T37 l0_0 t584).f1), .int .i64 ((rd_T37 l0_0 t584).f2.f0), .int .i64 ((rd_T37 l0_0 t584).f2.f1), .int .i64 ((rd_T37 l0_0 t584).f3), .int .i64 ((rd_T37 l0_0 t584).f4), .int .i64 ((rd_T37 l0_0 t584).f5.f0), .int .i64 ((rd_T37 l0_0 t584).f5.f1)] (0, 0) _ rfl (by refine bB ?_; refine blk_put (cs := #[.int .i64 ((rd_T37 l0_0 t584).f0), .int .i64 ((rd_T37 l0_0 t584).f1), .int .i64 ((rd_T37 l0_0 t584).f2.f0), .int .i64 ((rd_T37 l0_0 t584).f2.f1), .int .i64 ((rd_T37 l0_0 t584).f3), .int .i64 ((rd_T37 l0_0 t584).f4), .int .i64 ((rd_T37 l0_0 t584).f5.f0), .int .i64 0]) ?_ 7 _ rfl; refine bB ?_; refine blk_put (cs := #[.int .i64 ((rd_T37 l0_0 t584).f0), .int .i64 ((rd_T37 l0_0 t584).f1), .int .i64 ((rd_T37 l0_0 t584).f2.f0), .int .i64 ((rd_T37 l0_0 t584).f2.f1), .int .i64 ((rd_T37 l0_0 t584).f3), .int .i64 ((rd_T37 l0_0 t584).f4), .int .i64 0, .int .i64 0]) ?_ 6 _ rfl; refine bB ?_; refine blk_put (cs := #[.int .i64 ((rd_T37 l0_0 t584).f0), .int .i64 ((rd_T37 l0_0 t584).f1), .int .i64 ((rd_T37 l0_0 t584).f2.f0), .int .i64 ((rd_T37 l0_0 t584).f2.f1), .int .i64 ((rd_T37 l0_0 t584).f3), .int .i64 0, .int .i64 0, .int .i64 0]) ?_ 5 _ rfl; refine bB ?_; refine blk_put (cs := #[.int .i64 ((rd_T37 l0_0 t584).f0), .int .i64 ((rd_T37 l0_0 t584).f1), .int .i64 ((rd_T37 l0_0 t584).f2.f0), .int .i64 ((rd_T37 l0_0 t584).f2.f1), .int .i64 0, .int .i64 0, .int .i64 0, .int .i64 0]) ?_ 4 _ rfl; refine bB ?_; refine blk_put (cs := #[.int .i64 ((rd_T37 l0_0 t584).f0), .int .i64 ((rd_T37 l0_0 t584).f1), .int .i64 ((rd_T37 l0_0 t584).f2.f0), .int .i64 0, .int .i64 0, .int .i64 0, .int .i64 0, .int .i64 0]) ?_ 3 _ rfl; refine bB ?_; refine blk_put (cs := #[.int .i64 ((rd_T37 l0_0 t584).f0), .int .i64 ((rd_T37 l0_0 t584).f1), .int .i64 0, .int .i64 0, .int .i64 0, .int .i64 0, .int .i64 0, .int .i64 0]) ?_ 2 _ rfl; refine bB ?_; refine blk_put (cs := #[.int .i64 ((rd_T37 l0_0 t584).f0), .int .i64 0, .int .i64 0, .int .i64 0, .int .i64 0, .int .i64 0, .int .i64 0, .int .i64 0]) ?_ 1 _ rfl; refine bB ?_; refine blk_put (cs := #[.int .i64 0, .int .i64 0, .int .i64 0, .int .i64 0, .int .i64 0, .int .i64 0, .int .i64 0, .int .i64 0]) ?_ 0 _ rfl; refine bB ?_; exact BK583.out) Try.underlying37 rfl (by kernel_rfl)) rfl ?_
       exact ⟨by first | rfl | (simp [errW_none, errW_some] <;> rfl) | (simp [*, errW_none, errW_some] <;> rfl), sB HB.out⟩
      ·rw [if_neg c64] at H
       exact absurd H (by simp)
     ·rw [if_neg c63] at H
      exact absurd H (by simp)

end Go.Proofs.Ytepndcpncndjdaa.QS
