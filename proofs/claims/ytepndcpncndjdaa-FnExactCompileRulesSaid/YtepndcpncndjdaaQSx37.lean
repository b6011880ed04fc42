/- Go functions as Lean functions, each with its walk; printed by a program of this session (a scratch copy of print.py that follows nested field addresses and tells a law for the answer true). -/
import Derived.Test.YtepndcpncndjdaaQSx0
import Derived.Test.YtepndcpncndjdaaQSx33
namespace Go.Proofs.Ytepndcpncndjdaa.QS
open Go.RowKit Go.Proofs.YtepndcpncndjdaaW.PrintWords Go.Proofs.YtepndcpncndjdaaW.PrintLast Go.Proofs.YtepndcpncndjdaaW.PrintMore Go.Proofs.Ytepndcpncndjdaa.Short
attribute [local go_sem] max2_int min2_int max_two min_two max_three min_three max_four min_four   -- for this text's walks alone
set_option linter.unusedVariables false
set_option linter.unusedSimpArgs false

/-! ### spec_CompileRules: function 20 -/
mutual
def spec_CompileRules.l0 : Nat → List (S37) → Int → List (S37) → List (List (S37)) → Option ((List (S37)) × (List (List (S37))))
 | 0, _, _, _, _ => none
 | k + 1, x4, x5, x319000, x319001 => if x5 ≤ 9 then (spec_CompileRules.l1 k x4 x5 (([] : List (S37))) 0 x319000 x319001) else (some (x319000, x319001))
def spec_CompileRules.l1 : Nat → List (S37) → Int → List (S37) → Int → List (S37) → List (List (S37)) → Option ((List (S37)) × (List (List (S37))))
 | 0, _, _, _, _, _, _ => none
 | k + 1, x4, x5, x6, x7, x319000, x319001 => if x7 < (x4.length : Int) then (if 0 ≤ x7 then (if ((rd_T37 x4 x7).f2.f0) = x5 then (if x6.length < 2199023255552 then (spec_CompileRules.l1 k x4 x5 (x6 ++ [(⟨(rd_T37 x4 x7).f0, (rd_T37 x4 x7).f1, (⟨(rd_T37 x4 x7).f2.f0, (rd_T37 x4 x7).f2.f1⟩ : S35), (rd_T37 x4 x7).f3, (rd_T37 x4 x7).f4, (⟨(rd_T37 x4 x7).f5.f0, (rd_T37 x4 x7).f5.f1⟩ : S26)⟩ : S37)]) (wrap64 (x7 + 1)) x319000 x319001) else (none)) else (spec_CompileRules.l1 k x4 x5 x6 (wrap64 (x7 + 1)) x319000 x319001)) else (none)) else (if x5 = 0 then (spec_CompileRules.l0 k x4 (wrap64 (x5 + 1)) x6 x319001) else (if x319001.length < 5864062014805 then (spec_CompileRules.l0 k x4 (wrap64 (x5 + 1)) x319000 (x319001 ++ [x6])) else (none)))
end
def spec_CompileRules.f (k : Nat) (l0 : List (S37)) : Option ((List (S37)) × (List (List (S37)))) := (spec_SortRules.f k l0).bind fun t319 => (spec_CompileRules.l0 k t319 0 ([] : List (S37)) ([] : List (List (S37))))
theorem spec_CompileRules.mono_l : ∀ k, (∀ y0 y1 y2 y3, LeO (spec_CompileRules.l0 k y0 y1 y2 y3) (spec_CompileRules.l0 (k + 1) y0 y1 y2 y3)) ∧ (∀ y0 y1 y2 y3 y4 y5, LeO (spec_CompileRules.l1 k y0 y1 y2 y3 y4 y5) (spec_CompileRules.l1 (k + 1) y0 y1 y2 y3 y4 y5))
 | 0 => ⟨fun _ _ _ _ r h => by simp [spec_CompileRules.l0] at h, fun _ _ _ _ _ _ r h => by simp [spec_CompileRules.l1] at h⟩
 | k + 1 => by
  obtain ⟨ih0, ih1⟩ := spec_CompileRules.mono_l k
  refine ⟨?_, ?_⟩
  ·intro y0 y1 y2 y3
   unfold spec_CompileRules.l0
   repeat' first
   | (with_reducible exact ih0 _ _ _ _)
   | (with_reducible exact ih1 _ _ _ _ _ _)
   | (with_reducible exact spec_SortRules.mono _ _)
   | (with_reducible exact LeO.refl _)
   | (with_reducible exact LeO.none _)
   | (with_reducible refine LeO.ite ?_ ?_)
   | (with_reducible refine LeO.bind ?_ (fun _ => ?_))
   | exact ih0 _ _ _ _
   | exact ih1 _ _ _ _ _ _
   | exact spec_SortRules.mono _ _
   | exact LeO.none _
   | refine LeO.ite ?_ ?_
   | refine LeO.bind ?_ (fun _ => ?_)
  ·intro y0 y1 y2 y3 y4 y5
   unfold spec_CompileRules.l1
   repeat' first
   | (with_reducible exact ih0 _ _ _ _)
   | (with_reducible exact ih1 _ _ _ _ _ _)
   | (with_reducible exact spec_SortRules.mono _ _)
   | (with_reducible exact LeO.refl _)
   | (with_reducible exact LeO.none _)
   | (with_reducible refine LeO.ite ?_ ?_)
   | (with_reducible refine LeO.bind ?_ (fun _ => ?_))
   | exact ih0 _ _ _ _
   | exact ih1 _ _ _ _ _ _
   | exact spec_SortRules.mono _ _
   | exact LeO.none _
   | refine LeO.ite ?_ ?_
   | refine LeO.bind ?_ (fun _ => ?_)
theorem spec_CompileRules.mono : ∀ a0 k, LeO (spec_CompileRules.f k a0) (spec_CompileRules.f (k + 1) a0) := by
 intro a0 k
 obtain ⟨ih0, ih1⟩ := spec_CompileRules.mono_l k
 unfold spec_CompileRules.f
 repeat' first
   | (with_reducible exact ih0 _ _ _ _)
   | (with_reducible exact ih1 _ _ _ _ _ _)
   | (with_reducible exact spec_SortRules.mono _ _)
   | (with_reducible exact LeO.refl _)
   | (with_reducible exact LeO.none _)
   | (with_reducible refine LeO.ite ?_ ?_)
   | (with_reducible refine LeO.bind ?_ (fun _ => ?_))
   | exact ih0 _ _ _ _
   | exact ih1 _ _ _ _ _ _
   | exact spec_SortRules.mono _ _
   | exact LeO.none _
   | refine LeO.ite ?_ ?_
   | refine LeO.bind ?_ (fun _ => ?_)
set_option maxHeartbeats 8000000 in
set_option maxRecDepth 100000 in
theorem spec_CompileRules.calls (k : Nat) (A0 : Option Addr) (c0 : Nat) (l0 : List (S37)) (r1 : List (S37)) (r2 : List (List (S37))) (w : World) (hr0 : Kd.C k37 w A0 l0.length l0) (hc0 : l0.length ≤ c0) (h : spec_CompileRules.f k l0 = some (r1, r2)) :
  Calls Try.prog 20 #[.slice A0 l0.length c0] w fun e w' => ∃ v0_ v1_ : Value, e = .returned (.agg #[v0_, v1_]) ∧ Kd.R k37 37 w' w.heap.size (fun _ => True) v0_ r1 ∧ Kd.S (Kd.slice 37 k37) 24 w' w.heap.size (fun k_ => some k_ ≠ (v0_ : Value).ownBlock) v1_ r2 ∧ Below w.heap.size w w' := by
 have hu33 := Try.underlying33
 have hu37 := Try.underlying37
 have HR0 := Aside0.mk hr0
 have HC0 := Aside0.mk hc0
 clear hr0 hc0
 have HB := am (Below.refl w.heap.size w)
 have H : ((spec_SortRules.f k l0).bind fun t319 => (spec_CompileRules.l0 k t319 0 ([] : List (S37)) ([] : List (List (S37))))) = some (r1, r2) := h
 clear h
 replace H := Option.bind_eq_some_iff.mp H
 obtain ⟨t319, A20, H⟩ := H
 replace H : (spec_CompileRules.l0 k t319 0 ([] : List (S37)) ([] : List (List (S37)))) = some (r1, r2) := H
 have A2 := Aside0.mk A20
 clear A20
 have H' := Aside0.mk H
 clear H
 go_enter Try.func20, Try.ntmps20
 go_wp2_with (first | ((with_reducible refine gate_dst (N := 2) rfl ?_); refine box_event ?hg (N := 2) ?hd (cs := #[.slice none 0 0, .slice none 0 0]) (t := 33) ?hr ?_; (case hd => rfl); (case hg => rfl); (case hr => first | (go_simp; done) | (go_simp; rfl)); intro gb317 hg w3 hbox hb; have q_ := hbx_ (sB HB.out) hg hb; have n0_ := q_.1; have n1_ := am (hbox); have n2_ := q_.2; have n3_ := n2_; clear HB; have HB := n0_; have BK317 := n1_; have GW317 := n2_; have GE317 := n3_; clear n0_ n1_ n2_ n3_ hb hbox hg) | ((with_reducible refine gate_dst (N := 3) rfl ?_); refine box_event ?hg (N := 3) ?hd (cs := #[.slice none 0 0, .slice none 0 0]) (t := 33) ?hr ?_; (case hd => rfl); (case hg => rfl); (case hr => first | (go_simp; done) | (go_simp; rfl)); intro gb318 hg w4 hbox hb; have n0_ := am (blk_below (bB BK317.out) hb); have q_ := hbx_ (sB HB.out) hg hb; have n1_ := q_.1; have n2_ := am (hbox); have n3_ := q_.2; have n4_ := n3_; have n5_ := am ((by rw [hg]; exact Nat.ne_of_lt (blk_lt (g := gb317) (o := .cells #[.slice none 0 0, .slice none 0 0] 33 (0, 0)) (bB BK317.out)) : gb317 ≠ gb318)); have n6_ := am ((by rw [hg]; exact Nat.ne_of_gt (blk_lt (g := gb317) (o := .cells #[.slice none 0 0, .slice none 0 0] 33 (0, 0)) (bB BK317.out)) : gb318 ≠ gb317)); clear BK317; clear HB; have BK317 := n0_; have HB := n1_; have BK318 := n2_; have GW318 := n3_; have GE318 := n4_; have NB317_318 := n5_; have NB318_317 := n6_; clear n0_ n1_ n2_ n3_ n4_ n5_ n6_; clear hb hbox hg; have hnb5 := NB318_317.out; have hnc5 := NB317_318.out; obtain ⟨hcz6_0, hcz6_1, hfz6_0, hfz6_1⟩ := blk2 BK318.out) | ((with_reducible refine gate_callee (f := 32) rfl ?_); refine goesL_ (some 10) rfl rfl Try.func32 (by kernel_rfl) rfl #[.slice A0 l0.length c0] rfl (by (try simp only [List.map_toArray, List.map_cons, List.map_nil]); first | done | rfl | (simp only [List.length_drop, List.length_take]; rfl)) ?_; (with_reducible refine (spec_SortRules.calls k _ _ l0 t319 _ ?side1 ?side2 A2.out).mono ?_); (case side1 => exact Kd.C_below HR0.out (sB HB.out)); (case side2 => exact HC0.out); rintro e w7 ⟨v320, rfl, ho0, hb⟩; refine ⟨_, rfl, ?_⟩; have n0_ := am (Kd.R_lower ho0 (below_size (sB HB.out))); have n1_ := am (blk_below (g := gb317) (o := .cells #[.slice none 0 0, .slice none 0 0] 33 (0, 0)) (by refine bB ?_; refine blk_far ?_ NB317_318.out _; refine bB ?_; refine blk_far ?_ NB317_318.out _; refine bB ?_; exact BK317.out) hb); have n2_ := am (blk_below (g := gb318) (o := .cells #[.slice none 0 0, .slice none 0 0] 33 (0, 0)) (by refine bB ?_; refine blk_put (cs := #[.slice none 0 0, .slice none 0 0]) ?_ 1 _ rfl; refine bB ?_; refine blk_put (cs := #[.slice none 0 0, .slice none 0 0]) ?_ 0 _ rfl; refine bB ?_; exact BK318.out) hb); have n3_ := am (below_step (sB HB.out) hb); clear BK317; clear BK318; clear HB; have HO321 := n0_; have BK317 := n1_; have BK318 := n2_; have HB := n3_; clear n0_ n1_ n2_ n3_; (try clear hb); (try clear hb2); (try clear hk); (try clear hi); (try clear ho0)))
 go_loopg [5] k (fun kq v5 w' => ∃ (x5_1 : Int) (x319000_1 : List (S37)) (x319001_1 : List (List (S37))) (u319000 : Value) (u319001 : Value), v5 = .int .i64 x5_1 ∧ Aside0 (spec_CompileRules.l0 kq t319 x5_1 x319000_1 x319001_1 = some (r1, r2)) ∧ Aside0 (kq ≤ k) ∧ Aside0 (Kd.R k37 37 w' w.heap.size (fun k_ => some k_ ≠ (u319000 : Value).ownBlock) v320 t319) ∧ Aside0 (Kd.R k37 37 w' w.heap.size (fun k_ => some k_ ≠ (v320 : Value).ownBlock) u319000 x319000_1) ∧ Aside0 (Kd.S (Kd.slice 37 k37) 24 w' w.heap.size (fun k_ => some k_ ≠ (v320 : Value).ownBlock ∧ some k_ ≠ (u319000 : Value).ownBlock) u319001 x319001_1) ∧ Aside0 (w'.heap[gb317]? = some (.cells #[(.slice none 0 0), (.slice none 0 0)] 33 (0, 0))) ∧ Aside0 (w'.heap[gb318]? = some (.cells #[u319000, u319001] 33 (0, 0))) ∧ Aside0 (Below w.heap.size w w'))
 case atStart => exact ⟨(0), (([] : List (S37))), (([] : List (List (S37)))), (.slice none 0 0), (.slice none 0 0), (by first | rfl | (simp; done) | (simp [*]; done)), H', ⟨Nat.le_refl _⟩, ⟨by (with_reducible repeat (first | apply Kd.R_alloc | apply Kd.R_drewN | apply Kd.R_drew)); exact Kd.R_mono HO321.out (fun _ hk => (by simp [Value.ownBlock]))⟩, ⟨by first | exact Kd.R_nil _ _ _ _ _ | exact Kd.N_nil _ _ _ _ _ | exact Kd.V_nil _ _ _ _ _ | exact Kd.Q_nil _ _ _ _ _ | exact Kd.S_nil _ _ _ _ _⟩, ⟨by first | exact Kd.S_nil _ _ _ _ _ | exact Kd.N_nil _ _ _ _ _ | exact Kd.V_nil _ _ _ _ _ | exact Kd.Q_nil _ _ _ _ _ | exact Kd.R_nil _ _ _ _ _⟩, ⟨bB BK317.out⟩, ⟨bB BK318.out⟩, ⟨sB HB.out⟩⟩
 case round =>
  clear H'
  try clear c2
  try clear p2
  try clear c3
  try clear c5
  try clear hcz6_0 hcz6_1
  try clear hfz6_0 hfz6_1
  obtain ⟨x5_1, x319000_1, x319001_1, u319000, u319001, rfl, HA, HK1, HO_4, HO_319000, HO_319001, BK317, BK318, HB⟩ := hrel
  cases gk with
  | zero => exact absurd HA.out (by simp [spec_CompileRules.l0])
  | succ k1 =>
   have H := HA.out
   clear HA
   simp only [spec_CompileRules.l0] at H
   by_cases c8 : x5_1 ≤ 9
   ·rw [if_pos c8] at H
    have c8b0 : decide (x5_1 ≤ 9) = true := decide_eq_true c8
    clear c8
    obtain ⟨y322, hy322⟩ : ∃ y_ : List (S37), y_ = (([] : List (S37))) := ⟨_, rfl⟩
    replace H : (spec_CompileRules.l1 k1 t319 x5_1 y322 0 x319000_1 x319001_1) = some (r1, r2) := by first | (rw [hy322]; with_reducible exact H) | (have H2_ := (Option.bind_some _ _).symm.trans H; rw [hy322]; with_reducible exact H2_) | (have H2_ := (Option.bind_some _ _).symm.trans H; with_reducible exact H2_) | with_reducible exact H | (rw [hy322]; exact H) | exact H
    have Ny322 := Aside0.mk hy322
    clear hy322
    have H' := Aside0.mk H
    clear H
    go_wp2_with (first | ((with_reducible refine gate_dst (N := 15) rfl ?_); refine Kd.R_lit k37 _ 37 ?hg (N := 15) ?hd (xs := ([] : List (S37))) (inner := []) (ok := fun _ => True) (okp := fun _ => True) ?hr ?hp (fun _ hk => hk) trivial (Below.refl _ _) (Nat.le_refl _) (by simp) ?_; (case hd => rfl); (case hg => rfl); (case hr => first | (go_simp; done) | (go_simp; rfl)); (case hp => exact (Reps.none _ _)); intro v323 w9 ho10 hb hg_ hnew_; clear hg_ hnew_; (first | rw [← Ny322.out] at ho10 | (simp only [Int.reduceToNat] at ho10; rw [← Ny322.out] at ho10)); have n0_ := am (Kd.R_elder' (rB HO_4.out) (Kd.R_base ho10) hb); have n1_ := am (Kd.R_elder' (rB HO_319000.out) (Kd.R_base ho10) hb); have n2_ := am (Kd.S_elder' (by (with_reducible repeat (first | apply Kd.S_alloc | apply Kd.S_drewN | apply Kd.S_drew)); exact HO_319001.out) (Kd.R_base ho10) hb); have n3_ := am (Kd.R_lower (Kd.R_new' (Kd.R_new' ho10 (Kd.R_lt (rB HO_4.out))) (Kd.R_lt (rB HO_319000.out))) (below_size (sB HB.out))); have n4_ := am (blk_below (bB BK317.out) hb); have n5_ := am (blk_below (bB BK318.out) hb); have n6_ := am (below_step (sB HB.out) hb); clear HO_4; clear HO_319000; clear HO_319001; clear BK317; clear BK318; clear HB; have HO_4 := n0_; have HO_319000 := n1_; have HO_319001 := n2_; have HO324 := n3_; have BK317 := n4_; have BK318 := n5_; have HB := n6_; clear n0_ n1_ n2_ n3_ n4_ n5_ n6_; clear hb ho10))
    go_loopg [6, 7] k1 (fun kq v6 v7 w' => ∃ (x6_2 : List (S37)) (x7_2 : Int), v7 = .int .i64 x7_2 ∧ Aside0 (spec_CompileRules.l1 kq t319 x5_1 x6_2 x7_2 x319000_1 x319001_1 = some (r1, r2)) ∧ Aside0 (kq ≤ k1) ∧ Aside0 (Kd.R k37 37 w' w.heap.size (fun k_ => some k_ ≠ (v6 : Value).ownBlock ∧ some k_ ≠ (u319000 : Value).ownBlock) v320 t319) ∧ Aside0 (Kd.R k37 37 w' w.heap.size (fun k_ => some k_ ≠ (v320 : Value).ownBlock ∧ some k_ ≠ (u319000 : Value).ownBlock) v6 x6_2) ∧ Aside0 (Kd.R k37 37 w' w.heap.size (fun k_ => some k_ ≠ (v320 : Value).ownBlock ∧ some k_ ≠ (v6 : Value).ownBlock) u319000 x319000_1) ∧ Aside0 (Kd.S (Kd.slice 37 k37) 24 w' w.heap.size (fun k_ => some k_ ≠ (v320 : Value).ownBlock ∧ some k_ ≠ (v6 : Value).ownBlock ∧ some k_ ≠ (u319000 : Value).ownBlock) u319001 x319001_1) ∧ Aside0 (w'.heap[gb317]? = some (.cells #[(.slice none 0 0), (.slice none 0 0)] 33 (0, 0))) ∧ Aside0 (w'.heap[gb318]? = some (.cells #[u319000, u319001] 33 (0, 0))) ∧ Aside0 (Below w.heap.size w w'))
    case atStart => exact ⟨(y322), (0), (by first | rfl | (simp; done) | (simp [*]; done)), H', ⟨Nat.le_refl _⟩, ⟨by (with_reducible repeat (first | apply Kd.R_alloc | apply Kd.R_drewN | apply Kd.R_drew)); exact Kd.R_mono HO_4.out (fun _ hk => ⟨hk.2, hk.1⟩)⟩, ⟨by (with_reducible repeat (first | apply Kd.R_alloc | apply Kd.R_drewN | apply Kd.R_drew)); exact Kd.R_mono HO324.out (fun _ hk => ⟨hk.1.2, hk.2⟩)⟩, ⟨by (with_reducible repeat (first | apply Kd.R_alloc | apply Kd.R_drewN | apply Kd.R_drew)); exact HO_319000.out⟩, ⟨by (with_reducible repeat (first | apply Kd.S_alloc | apply Kd.S_drewN | apply Kd.S_drew)); exact Kd.S_mono HO_319001.out (fun _ hk => ⟨hk.1.1, ⟨hk.2, hk.1.2⟩⟩)⟩, ⟨bB BK317.out⟩, ⟨bB BK318.out⟩, ⟨sB HB.out⟩⟩
    case round =>
     clear H'
     try clear c2
     try clear p2
     try clear c3
     try clear c5
     try clear c8
     try clear c8b0
     try clear hcz6_0 hcz6_1
     try clear hfz6_0 hfz6_1
     try clear p2
     obtain ⟨x6_2, x7_2, rfl, HA, HK2, HO_4, HO_6, HO_319000, HO_319001, BK317, BK318, HB⟩ := hrel
     cases gk with
     | zero => exact absurd HA.out (by simp [spec_CompileRules.l1])
     | succ k2 =>
      have H := HA.out
      clear HA
      simp only [spec_CompileRules.l1] at H
      by_cases c11 : x7_2 < (t319.length : Int)
      ·rw [if_pos c11] at H
       have c11b0 : decide (x7_2 < (t319.length : Int)) = true := decide_eq_true c11
       clear c11
       by_cases c12 : 0 ≤ x7_2
       ·rw [if_pos c12] at H
        have c12b0 : decide (0 ≤ x7_2) = true := decide_eq_true c12
        clear c12
        by_cases c13 : ((rd_T37 t319 x7_2).f2.f0) = x5_1
        ·rw [if_pos c13] at H
         have c13b0 : (((rd_T37 t319 x7_2).f2.f0) == x5_1) = true := beq_iff_eq.mpr c13
         have c13b1 : (((rd_T37 t319 x7_2).f2.f0) != x5_1) = false := bne_eq_false_iff_eq.mpr c13
         clear c13
         by_cases c14 : x6_2.length < 2199023255552
         ·rw [if_pos c14] at H
          have LMc14 := Aside0.mk c14
          clear c14
          obtain ⟨y327, hy327⟩ : ∃ y_ : List (S37), y_ = (x6_2 ++ [(⟨(rd_T37 t319 x7_2).f0, (rd_T37 t319 x7_2).f1, (⟨(rd_T37 t319 x7_2).f2.f0, (rd_T37 t319 x7_2).f2.f1⟩ : S35), (rd_T37 t319 x7_2).f3, (rd_T37 t319 x7_2).f4, (⟨(rd_T37 t319 x7_2).f5.f0, (rd_T37 t319 x7_2).f5.f1⟩ : S26)⟩ : S37)]) := ⟨_, rfl⟩
          replace H : (spec_CompileRules.l1 k2 t319 x5_1 y327 (wrap64 (x7_2 + 1)) x319000_1 x319001_1) = some (r1, r2) := by first | (rw [hy327]; with_reducible exact H) | (have H2_ := (Option.bind_some _ _).symm.trans H; rw [hy327]; with_reducible exact H2_) | (have H2_ := (Option.bind_some _ _).symm.trans H; with_reducible exact H2_) | with_reducible exact H | (rw [hy327]; exact H) | exact H
          have Ny327 := Aside0.mk hy327
          clear hy327
          have H' := Aside0.mk H
          clear H
          obtain ⟨Ao15, co15, eo15⟩ := Kd.R_slice HO_4.out
          subst eo15
          have p325 : 0 ≤ (x7_2 : Int) := of_decide_eq_true (by first | (with_reducible assumption) | assumption)
          have q325 : x7_2 < (t319.length : Int) := of_decide_eq_true (by first | (with_reducible assumption) | assumption)
          obtain ⟨ad325, e325, hx325_0, hx325_1, hx325_2, hx325_3, hx325_4, hx325_5, hx325_6, hx325_7⟩ := at_T37 (Kd.R_reads' HO_4.out).2.2 x7_2 p325 q325
          cases e325
          replace p325 := eq_true p325
          replace q325 := eq_true q325
          have p326 : 0 ≤ (x7_2 : Int) := of_decide_eq_true (by first | (with_reducible assumption) | assumption)
          have q326 : x7_2 < (t319.length : Int) := of_decide_eq_true (by first | (with_reducible assumption) | assumption)
          obtain ⟨ad326, e326, hx326_0, hx326_1, hx326_2, hx326_3, hx326_4, hx326_5, hx326_6, hx326_7⟩ := at_T37 (Kd.R_reads' HO_4.out).2.2 x7_2 p326 q326
          obtain rfl : ad325 = ad326 := (by injection e326)
          replace p326 := eq_true p326
          replace q326 := eq_true q326
          go_wp2_with (first | ((with_reducible refine gate_builtin (b := .append) (xs := #[.tmp 30, .tmp 35]) rfl ?_); at_builtin; refine Kd.R_append k37 (w0 := w) w.heap.size rfl (.tmp 30) (.tmp 35) 24 37 (.agg #[(.int .i64 0), (.int .i64 0), (.int .i64 0), (.int .i64 0), (.int .i64 0), (.int .i64 0), (.int .i64 0), (.int .i64 0)]) 64 rfl Try.underlying24 info37 rfl (by decide) (by omega) u6 x6_2 (⟨(rd_T37 t319 x7_2).f0, (rd_T37 t319 x7_2).f1, (⟨(rd_T37 t319 x7_2).f2.f0, (rd_T37 t319 x7_2).f2.f1⟩ : S35), (rd_T37 t319 x7_2).f3, (rd_T37 t319 x7_2).f4, (⟨(rd_T37 t319 x7_2).f5.f0, (rd_T37 t319 x7_2).f5.f1⟩ : S26)⟩ : S37) [.int .i64 ((rd_T37 t319 x7_2).f0), .int .i64 ((rd_T37 t319 x7_2).f1), .int .i64 ((rd_T37 t319 x7_2).f2.f0), .int .i64 ((rd_T37 t319 x7_2).f2.f1), .int .i64 ((rd_T37 t319 x7_2).f3), .int .i64 ((rd_T37 t319 x7_2).f4), .int .i64 ((rd_T37 t319 x7_2).f5.f0), .int .i64 ((rd_T37 t319 x7_2).f5.f1)] (fun k_ => some k_ ≠ (.slice (some ad325) t319.length co15 : Value).ownBlock ∧ some k_ ≠ (u319000 : Value).ownBlock) (fun _ => False) rfl rfl ?aP (fun _ hk => hk.elim) ?aF ?aO ?aB ?aS ?aL ?_; (case aP => exact k37_mkM _ _ _ (⟨(rd_T37 t319 x7_2).f0, (rd_T37 t319 x7_2).f1, (⟨(rd_T37 t319 x7_2).f2.f0, (rd_T37 t319 x7_2).f2.f1⟩ : S35), (rd_T37 t319 x7_2).f3, (rd_T37 t319 x7_2).f4, (⟨(rd_T37 t319 x7_2).f5.f0, (rd_T37 t319 x7_2).f5.f1⟩ : S26)⟩ : S37)); (case aB => exact (sB HB.out)); (case aF => exact (fun k_ hk => ⟨Kd.fresh' (Kd.R_lt (rB HO_4.out)) k_ hk, Kd.fresh' (Kd.R_lt (rB HO_319000.out)) k_ hk⟩)); (case aO => exact (rB HO_6.out)); (case aS => exact (below_size (sB HB.out))); (case aL => have := LMc14.out; omega); intro v328 w16 ho hb hg hat; rw [← Ny327.out] at ho; have n0_ := am (Kd.R_after (ok := (fun k_ => some k_ ≠ (u319000 : Value).ownBlock)) (by (with_reducible repeat (first | apply Kd.R_alloc | apply Kd.R_drewN | apply Kd.R_drew)); exact Kd.R_mono HO_4.out (fun _ hk => ⟨hk.2, hk.1⟩)) hg hat); have n1_ := am (Kd.R_after (ok := (fun k_ => some k_ ≠ (.slice (some ad325) t319.length co15 : Value).ownBlock)) (rB HO_319000.out) hg hat); have n2_ := am (Kd.S_after (ok := (fun k_ => some k_ ≠ (.slice (some ad325) t319.length co15 : Value).ownBlock ∧ some k_ ≠ (u319000 : Value).ownBlock)) (by (with_reducible repeat (first | apply Kd.S_alloc | apply Kd.S_drewN | apply Kd.S_drew)); exact Kd.S_mono HO_319001.out (fun _ hk => ⟨⟨hk.1, hk.2.2⟩, hk.2.1⟩)) hg hat); have n3_ := am (blk_grown (g := gb317) (o := .cells #[.slice none 0 0, .slice none 0 0] 33 (0, 0)) (bB BK317.out) hg (Kd.R_ne HO_6.out BK317.out (by decide))); have n4_ := am (blk_grown (g := gb318) (o := .cells #[u319000, u319001] 33 (0, 0)) (bB BK318.out) hg (Kd.R_ne HO_6.out BK318.out (by decide))); have n5_ := am (hb); have n6_ := am (ho); clear HO_4; clear HO_319000; clear HO_319001; clear BK317; clear BK318; clear HB; clear HO_6; have HO_4 := n0_; have HO_319000 := n1_; have HO_319001 := n2_; have BK317 := n3_; have BK318 := n4_; have HB := n5_; have HO329 := n6_; clear n0_ n1_ n2_ n3_ n4_ n5_ n6_; clear ho hb hg hat))
          go_roundg k2
          case measure => have := HK1.out; have := HK2.out; omega
          case rel => exact ⟨(y327), (wrap64 (x7_2 + 1)), (by first | rfl | (simp; done) | (simp [*]; done)), H', ⟨by have := HK1.out; have := HK2.out; omega⟩, ⟨by (with_reducible repeat (first | apply Kd.R_alloc | apply Kd.R_drewN | apply Kd.R_drew)); exact Kd.R_mono HO_4.out (fun _ hk => ⟨hk.2, hk.1⟩)⟩, ⟨by (with_reducible repeat (first | apply Kd.R_alloc | apply Kd.R_drewN | apply Kd.R_drew)); exact HO329.out⟩, ⟨by (with_reducible repeat (first | apply Kd.R_alloc | apply Kd.R_drewN | apply Kd.R_drew)); exact HO_319000.out⟩, ⟨by (with_reducible repeat (first | apply Kd.S_alloc | apply Kd.S_drewN | apply Kd.S_drew)); exact Kd.S_mono HO_319001.out (fun _ hk => ⟨hk.1.1, ⟨hk.2, hk.1.2⟩⟩)⟩, ⟨bB BK317.out⟩, ⟨bB BK318.out⟩, ⟨sB HB.out⟩⟩
         ·rw [if_neg c14] at H
          exact absurd H (by simp)
        ·rw [if_neg c13] at H
         have c13b0 : (((rd_T37 t319 x7_2).f2.f0) == x5_1) = false := beq_eq_false_iff_ne.mpr c13
         have c13b1 : (((rd_T37 t319 x7_2).f2.f0) != x5_1) = true := bne_iff_ne.mpr c13
         have H' := Aside0.mk H
         clear H
         obtain ⟨Ao17, co17, eo17⟩ := Kd.R_slice HO_4.out
         subst eo17
         have p325 : 0 ≤ (x7_2 : Int) := of_decide_eq_true (by first | (with_reducible assumption) | assumption)
         have q325 : x7_2 < (t319.length : Int) := of_decide_eq_true (by first | (with_reducible assumption) | assumption)
         obtain ⟨ad325, e325, hx325_0, hx325_1, hx325_2, hx325_3, hx325_4, hx325_5, hx325_6, hx325_7⟩ := at_T37 (Kd.R_reads' HO_4.out).2.2 x7_2 p325 q325
         cases e325
         replace p325 := eq_true p325
         replace q325 := eq_true q325
         go_wp2
         go_roundg k2
         case measure => have := HK1.out; have := HK2.out; omega
         case rel => exact ⟨(x6_2), (wrap64 (x7_2 + 1)), (by first | rfl | (simp; done) | (simp [*]; done)), H', ⟨by have := HK1.out; have := HK2.out; omega⟩, ⟨by (with_reducible repeat (first | apply Kd.R_alloc | apply Kd.R_drewN | apply Kd.R_drew)); exact HO_4.out⟩, ⟨by (with_reducible repeat (first | apply Kd.R_alloc | apply Kd.R_drewN | apply Kd.R_drew)); exact HO_6.out⟩, ⟨by (with_reducible repeat (first | apply Kd.R_alloc | apply Kd.R_drewN | apply Kd.R_drew)); exact HO_319000.out⟩, ⟨by (with_reducible repeat (first | apply Kd.S_alloc | apply Kd.S_drewN | apply Kd.S_drew)); exact HO_319001.out⟩, ⟨bB BK317.out⟩, ⟨bB BK318.out⟩, ⟨sB HB.out⟩⟩
       ·rw [if_neg c12] at H
        exact absurd H (by simp)
      ·rw [if_neg c11] at H
       have c11b0 : decide (x7_2 < (t319.length : Int)) = false := decide_eq_false c11
       clear c11
       by_cases c18 : x5_1 = 0
       ·rw [if_pos c18] at H
        have c18b0 : (x5_1 == 0) = true := beq_iff_eq.mpr c18
        have c18b1 : (x5_1 != 0) = false := bne_eq_false_iff_eq.mpr c18
        clear c18
        have H' := Aside0.mk H
        clear H
        obtain ⟨Ao19, co19, eo19⟩ := Kd.R_slice HO_4.out
        subst eo19
        obtain ⟨Ao20, co20, eo20⟩ := Kd.R_slice HO_6.out
        subst eo20
        have hnb21 := NB318_317.out
        have hnc21 := NB317_318.out
        have hcz22_0 : wr.cell? ⟨gb318, 0, none⟩ = some (u319000) := (blk_cell BK318.out 0).trans rfl
        have hcz22_1 : wr.cell? ⟨gb318, 1, none⟩ = some (u319001) := (blk_cell BK318.out 1).trans rfl
        have hfz22_0 := blk_frozen BK318.out 0
        have hfz22_1 := blk_frozen BK318.out 1
        go_wp2
        go_roundg k2
        case measure => have := HK1.out; have := HK2.out; omega
        case rel => exact ⟨(wrap64 (x5_1 + 1)), (x6_2), (x319001_1), (.slice Ao20 x6_2.length co20), (u319001), (by first | rfl | (simp; done) | (simp [*]; done)), H', ⟨by have := HK1.out; have := HK2.out; omega⟩, ⟨by (with_reducible repeat (first | apply Kd.R_alloc | apply Kd.R_drewN | apply Kd.R_drew)); exact Kd.R_mono (Kd.R_far (p := ⟨gb318, 0, none⟩) (Kd.R_types HO_4.out BK318.out (by decide)) (fun _ hk => hk.2) (.slice Ao20 x6_2.length co20)) (fun _ hk => hk.1.1)⟩, ⟨by (with_reducible repeat (first | apply Kd.R_alloc | apply Kd.R_drewN | apply Kd.R_drew)); exact Kd.R_mono (Kd.R_far (p := ⟨gb318, 0, none⟩) (Kd.R_types HO_6.out BK318.out (by decide)) (fun _ hk => hk.2) (.slice Ao20 x6_2.length co20)) (fun _ hk => hk.1.1)⟩, ⟨by (with_reducible repeat (first | apply Kd.S_alloc | apply Kd.S_drewN | apply Kd.S_drew)); exact Kd.S_mono (Kd.S_far (p := ⟨gb318, 0, none⟩) (Kd.S_types HO_319001.out BK318.out (by decide)) (fun _ hk => hk.2) (.slice Ao20 x6_2.length co20)) (fun _ hk => ⟨hk.1.1, hk.1.2.1⟩)⟩, ⟨by refine bB ?_; refine blk_far ?_ NB317_318.out _; refine bB ?_; exact BK317.out⟩, ⟨by refine bB ?_; refine blk_put (cs := #[u319000, u319001]) ?_ 0 _ rfl; refine bB ?_; exact BK318.out⟩, ⟨sB HB.out⟩⟩
       ·rw [if_neg c18] at H
        have c18b0 : (x5_1 == 0) = false := beq_eq_false_iff_ne.mpr c18
        have c18b1 : (x5_1 != 0) = true := bne_iff_ne.mpr c18
        by_cases c23 : x319001_1.length < 5864062014805
        ·rw [if_pos c23] at H
         have LMc23 := Aside0.mk c23
         clear c23
         obtain ⟨y330, hy330⟩ : ∃ y_ : List (List (S37)), y_ = (x319001_1 ++ [x6_2]) := ⟨_, rfl⟩
         replace H : (spec_CompileRules.l0 k2 t319 (wrap64 (x5_1 + 1)) x319000_1 y330) = some (r1, r2) := by first | (rw [hy330]; with_reducible exact H) | (have H2_ := (Option.bind_some _ _).symm.trans H; rw [hy330]; with_reducible exact H2_) | (have H2_ := (Option.bind_some _ _).symm.trans H; with_reducible exact H2_) | with_reducible exact H | (rw [hy330]; exact H) | exact H
         have Ny330 := Aside0.mk hy330
         clear hy330
         have H' := Aside0.mk H
         clear H
         obtain ⟨Ao24, co24, eo24⟩ := Kd.R_slice HO_4.out
         subst eo24
         have hnb25 := NB318_317.out
         have hnc25 := NB317_318.out
         have hcz26_0 : wr.cell? ⟨gb318, 0, none⟩ = some (u319000) := (blk_cell BK318.out 0).trans rfl
         have hcz26_1 : wr.cell? ⟨gb318, 1, none⟩ = some (u319001) := (blk_cell BK318.out 1).trans rfl
         have hfz26_0 := blk_frozen BK318.out 0
         have hfz26_1 := blk_frozen BK318.out 1
         obtain ⟨Ao28, co28, eo28⟩ := Kd.R_slice HO_6.out
         subst eo28
         go_wp2_with (first | ((with_reducible refine gate_builtin (b := .append) (xs := #[.tmp 42, .tmp 44]) rfl ?_); at_builtin; refine Kd.S_append (Kd.slice 37 k37) (w0 := w) w.heap.size rfl (.tmp 42) (.tmp 44) 31 24 (.slice none 0 0) 24 rfl Try.underlying31 info24 rfl (by decide) (by omega) u319001 x319001_1 x6_2 [.slice Ao28 x6_2.length co28] (fun k_ => some k_ ≠ (.slice Ao24 t319.length co24 : Value).ownBlock ∧ some k_ ≠ (u319000 : Value).ownBlock) (fun k_ => some k_ = (.slice Ao28 x6_2.length co28 : Value).ownBlock) rfl rfl ?aP (fun k_ hk_ => ((Kd.R_mono (ok' := fun k_ => ((fun k_ => some k_ ≠ (.slice Ao24 t319.length co24 : Value).ownBlock ∧ some k_ ≠ (u319000 : Value).ownBlock)) k_ ∧ some k_ ≠ (u319001 : Value).ownBlock) (Kd.R_apart' (HO_6.out) (Kd.S_typed HO_319001.out) (by decide)) (fun k_ hk => ⟨⟨hk.1.1, hk.1.2⟩, hk.2⟩))).1 k_ hk_.symm) ?aF ?aO ?aB ?aS ?aL ?_; (case aP => exact Kd.M_row (Kd.R_mono (Kd.R_tight rfl (Kd.R_mono (ok' := fun k_ => ((fun k_ => some k_ ≠ (.slice Ao24 t319.length co24 : Value).ownBlock ∧ some k_ ≠ (u319000 : Value).ownBlock)) k_ ∧ some k_ ≠ (u319001 : Value).ownBlock) (Kd.R_apart' (HO_6.out) (Kd.S_typed HO_319001.out) (by decide)) (fun k_ hk => ⟨⟨hk.1.1, hk.1.2⟩, hk.2⟩))) (fun _ h_ => h_))); (case aB => exact (sB HB.out)); (case aF => exact (fun k_ hk => ⟨Kd.fresh' (Kd.R_lt (rB HO_4.out)) k_ hk, Kd.fresh' (Kd.R_lt (rB HO_319000.out)) k_ hk⟩)); (case aO => exact (by (with_reducible repeat (first | apply Kd.S_alloc | apply Kd.S_drewN | apply Kd.S_drew)); exact Kd.S_mono HO_319001.out (fun k_ hk => ⟨⟨hk.1, hk.2.2⟩, fun e_ => hk.2.1 e_⟩))); (case aS => exact (below_size (sB HB.out))); (case aL => have := LMc23.out; omega); intro v331 w27 ho hb hg hat; rw [← Ny330.out] at ho; have n0_ := am (Kd.R_over' (rB HO_4.out) (Kd.S_typed (by (with_reducible repeat (first | apply Kd.S_alloc | apply Kd.S_drewN | apply Kd.S_drew)); exact HO_319001.out)) (by decide) hg); have n1_ := am (Kd.R_over' (rB HO_319000.out) (Kd.S_typed (by (with_reducible repeat (first | apply Kd.S_alloc | apply Kd.S_drewN | apply Kd.S_drew)); exact HO_319001.out)) (by decide) hg); have n2_ := am (blk_grown (g := gb317) (o := .cells #[.slice none 0 0, .slice none 0 0] 33 (0, 0)) (bB BK317.out) hg (Kd.S_ne HO_319001.out BK317.out (by decide))); have n3_ := am (blk_grown (g := gb318) (o := .cells #[u319000, u319001] 33 (0, 0)) (bB BK318.out) hg (Kd.S_ne HO_319001.out BK318.out (by decide))); have n4_ := am (hb); have n5_ := am (ho); clear HO_4; clear HO_319000; clear BK317; clear BK318; clear HB; clear HO_319001; clear HO_6; have HO_4 := n0_; have HO_319000 := n1_; have BK317 := n2_; have BK318 := n3_; have HB := n4_; have HO332 := n5_; clear n0_ n1_ n2_ n3_ n4_ n5_; clear ho hb hg hat; obtain ⟨Ao29, co29, eo29⟩ := Kd.S_slice HO332.out; subst eo29; obtain ⟨hcz30_0, hcz30_1, hfz30_0, hfz30_1⟩ := blk2 BK318.out))
         go_roundg k2
         case measure => have := HK1.out; have := HK2.out; omega
         case rel => exact ⟨(wrap64 (x5_1 + 1)), (x319000_1), (y330), (u319000), (.slice Ao29 y330.length co29), (by first | rfl | (simp; done) | (simp [*]; done)), H', ⟨by have := HK1.out; have := HK2.out; omega⟩, ⟨by (with_reducible repeat (first | apply Kd.R_alloc | apply Kd.R_drewN | apply Kd.R_drew)); exact Kd.R_mono (Kd.R_far (p := ⟨gb318, 1, none⟩) (Kd.R_types HO_4.out BK318.out (by decide)) (fun _ hk => hk.2) (.slice Ao29 y330.length co29)) (fun _ hk => hk.1.2)⟩, ⟨by (with_reducible repeat (first | apply Kd.R_alloc | apply Kd.R_drewN | apply Kd.R_drew)); exact Kd.R_mono (Kd.R_far (p := ⟨gb318, 1, none⟩) (Kd.R_types HO_319000.out BK318.out (by decide)) (fun _ hk => hk.2) (.slice Ao29 y330.length co29)) (fun _ hk => hk.1.1)⟩, ⟨by (with_reducible repeat (first | apply Kd.S_alloc | apply Kd.S_drewN | apply Kd.S_drew)); exact Kd.S_mono (Kd.S_far (p := ⟨gb318, 1, none⟩) (Kd.S_types HO332.out BK318.out (by decide)) (fun _ hk => hk.2) (.slice Ao29 y330.length co29)) (fun _ hk => ⟨hk.1.1, hk.1.2⟩)⟩, ⟨by refine bB ?_; refine blk_far ?_ NB317_318.out _; refine bB ?_; exact BK317.out⟩, ⟨by refine bB ?_; refine blk_put (cs := #[u319000, u319001]) ?_ 1 _ rfl; refine bB ?_; exact BK318.out⟩, ⟨sB HB.out⟩⟩
        ·rw [if_neg c23] at H
         exact absurd H (by simp)
   ·rw [if_neg c8] at H
    have c8b0 : decide (x5_1 ≤ 9) = false := decide_eq_false c8
    clear c8
    simp only [Option.some.injEq, Prod.mk.injEq] at H
    obtain ⟨rfl, rfl⟩ := H
    have hnb31 := NB318_317.out
    have hnc31 := NB317_318.out
    have hcz32_0 : wr.cell? ⟨gb318, 0, none⟩ = some (u319000) := (blk_cell BK318.out 0).trans rfl
    have hcz32_1 : wr.cell? ⟨gb318, 1, none⟩ = some (u319001) := (blk_cell BK318.out 1).trans rfl
    have hfz32_0 := blk_frozen BK318.out 0
    have hfz32_1 := blk_frozen BK318.out 1
    obtain ⟨Ao33, co33, eo33⟩ := Kd.R_slice HO_319000.out
    subst eo33
    have hcz34_0 : wr.cell? ⟨gb317, 0, none⟩ = some (.slice none 0 0) := (blk_cell BK317.out 0).trans rfl
    have hcz34_1 : wr.cell? ⟨gb317, 1, none⟩ = some (.slice none 0 0) := (blk_cell BK317.out 1).trans rfl
    have hfz34_0 := blk_frozen BK317.out 0
    have hfz34_1 := blk_frozen BK317.out 1
    obtain ⟨Ao35, co35, eo35⟩ := Kd.S_slice HO_319001.out
    subst eo35
    go_wp2
    refine bodyPost_ret (results_cell_row rfl _ _ gb317 33 #[.slice Ao33 x319000_1.length co33, .slice Ao35 x319001_1.length co35] (0, 0) _ rfl (by refine bB ?_; refine blk_put (cs := #[.slice Ao33 x319000_1.length co33, .slice none 0 0]) ?_ 1 _ rfl; refine bB ?_; refine blk_put (cs := #[.slice none 0 0, .slice none 0 0]) ?_ 0 _ rfl; refine bB ?_; exact BK317.out) Try.underlying33 rfl (by kernel_rfl)) rfl ?_
    exact ⟨_, _, by first | rfl | (simp [errW_none, errW_some] <;> rfl) | (simp [*, errW_none, errW_some] <;> rfl), by (with_reducible repeat (first | apply Kd.R_alloc | apply Kd.R_drewN | apply Kd.R_drew)); exact Kd.R_mono (Kd.R_far (p := ⟨gb317, 1, none⟩) (Kd.R_far (p := ⟨gb317, 0, none⟩) (Kd.R_types HO_319000.out BK317.out (by decide)) (fun _ hk => hk.2) (.slice Ao33 x319000_1.length co33)) (fun _ hk => hk.2) (.slice Ao35 x319001_1.length co35)) (fun _ hk => trivial), by (with_reducible repeat (first | apply Kd.S_alloc | apply Kd.S_drewN | apply Kd.S_drew)); exact Kd.S_mono (Kd.S_far (p := ⟨gb317, 1, none⟩) (Kd.S_far (p := ⟨gb317, 0, none⟩) (Kd.S_types HO_319001.out BK317.out (by decide)) (fun _ hk => hk.2) (.slice Ao33 x319000_1.length co33)) (fun _ hk => hk.2) (.slice Ao35 x319001_1.length co35)) (fun _ hk => hk.1.2), sB HB.out⟩

end Go.Proofs.Ytepndcpncndjdaa.QS
