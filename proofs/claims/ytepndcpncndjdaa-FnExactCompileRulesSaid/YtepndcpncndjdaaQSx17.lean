/- Go functions as Lean functions, each with its walk; printed by a program of this session (a scratch copy of print.py that follows nested field addresses and tells a law for the answer true). -/
import Derived.Test.YtepndcpncndjdaaStabUse
import Derived.Test.YtepndcpncndjdaaQSx0
import Derived.Test.YtepndcpncndjdaaQSx6
namespace Go.Proofs.Ytepndcpncndjdaa.QS
open Go.RowKit Go.Proofs.YtepndcpncndjdaaW.PrintWords Go.Proofs.YtepndcpncndjdaaW.PrintLast Go.Proofs.YtepndcpncndjdaaW.PrintMore Go.Proofs.Ytepndcpncndjdaa.Short
attribute [local go_sem] max2_int min2_int max_two min_two max_three min_three max_four min_four   -- for this text's walks alone
set_option linter.unusedVariables false
set_option linter.unusedSimpArgs false

/-! ### impl_SortRules: function 16 -/
def impl_SortRules.l0 : Nat → List (S37) → List (S37) → Int → Int → Option ((List (S37)))
 | 0, _, _, _, _ => none
 | k + 1, x3, x7, x8, x9 => if x9 < x8 then (if 0 ≤ x9 then (if x9 < (x7.length : Int) then ((impl_IsRule.f k ((rd_T37 x7 x9).f0) ((rd_T37 x7 x9).f1) ((rd_T37 x7 x9).f2.f0) ((rd_T37 x7 x9).f2.f1) ((rd_T37 x7 x9).f3) ((rd_T37 x7 x9).f4) ((rd_T37 x7 x9).f5.f0) ((rd_T37 x7 x9).f5.f1)).bind fun t132 => (if t132 = true then (if x3.length < 2199023255552 then (impl_SortRules.l0 k (x3 ++ [(⟨(rd_T37 x7 x9).f0, (rd_T37 x7 x9).f1, (⟨(rd_T37 x7 x9).f2.f0, (rd_T37 x7 x9).f2.f1⟩ : S35), (rd_T37 x7 x9).f3, (rd_T37 x7 x9).f4, (⟨(rd_T37 x7 x9).f5.f0, (rd_T37 x7 x9).f5.f1⟩ : S26)⟩ : S37)]) x7 x8 (wrap64 (x9 + 1))) else (none)) else (impl_SortRules.l0 k x3 x7 x8 (wrap64 (x9 + 1))))) else (none)) else (none)) else (if x3.length < 4611686018427387904 then (some (Stab.isort (ltOf cfR) x3)) else (none))
def impl_SortRules.f (k : Nat) (l0 : List (S37)) : Option ((List (S37))) := impl_SortRules.l0 k (([] : List (S37))) l0 (l0.length : Int) 0
theorem impl_SortRules.mono_l : ∀ k, (∀ y0 y1 y2 y3, LeO (impl_SortRules.l0 k y0 y1 y2 y3) (impl_SortRules.l0 (k + 1) y0 y1 y2 y3))
 | 0 => fun _ _ _ _ r h => by simp [impl_SortRules.l0] at h
 | k + 1 => by
  have ih0 := impl_SortRules.mono_l k
  ·intro y0 y1 y2 y3
   unfold impl_SortRules.l0
   repeat' first
   | (with_reducible exact ih0 _ _ _ _)
   | (with_reducible exact impl_IsRule.mono _ _ _ _ _ _ _ _ _)
   | (with_reducible exact LeO.refl _)
   | (with_reducible exact LeO.none _)
   | (with_reducible refine LeO.ite ?_ ?_)
   | (with_reducible refine LeO.bind ?_ (fun _ => ?_))
   | exact ih0 _ _ _ _
   | exact impl_IsRule.mono _ _ _ _ _ _ _ _ _
   | exact LeO.none _
   | refine LeO.ite ?_ ?_
   | refine LeO.bind ?_ (fun _ => ?_)
theorem impl_SortRules.mono : ∀ a0 k, LeO (impl_SortRules.f k a0) (impl_SortRules.f (k + 1) a0) := by
 intro a0 k
 have ih0 := impl_SortRules.mono_l k
 unfold impl_SortRules.f
 repeat' first
   | (with_reducible exact ih0 _ _ _ _)
   | (with_reducible exact impl_IsRule.mono _ _ _ _ _ _ _ _ _)
   | (with_reducible exact LeO.refl _)
   | (with_reducible exact LeO.none _)
   | (with_reducible refine LeO.ite ?_ ?_)
   | (with_reducible refine LeO.bind ?_ (fun _ => ?_))
   | exact ih0 _ _ _ _
   | exact impl_IsRule.mono _ _ _ _ _ _ _ _ _
   | exact LeO.none _
   | refine LeO.ite ?_ ?_
   | refine LeO.bind ?_ (fun _ => ?_)
set_option maxHeartbeats 8000000 in
set_option maxRecDepth 100000 in
theorem impl_SortRules.calls (k : Nat) (A0 : Option Addr) (c0 : Nat) (l0 : List (S37)) (r : List (S37)) (w : World) (hr0 : Kd.C k37 w A0 l0.length l0) (hc0 : l0.length ≤ c0) (h : impl_SortRules.f k l0 = some r) :
  Calls Try.prog 16 #[.slice A0 l0.length c0] w fun e w' => ∃ v0_ : Value, e = .returned (v0_) ∧ Kd.R k37 37 w' w.heap.size (fun _ => True) v0_ r ∧ Below w.heap.size w w' := by
 have hu37 := Try.underlying37
 have HR0 := Aside0.mk hr0
 have HC0 := Aside0.mk hc0
 clear hr0 hc0
 have HB := am (Below.refl w.heap.size w)
 have H : (impl_SortRules.l0 k (([] : List (S37))) l0 (l0.length : Int) 0) = some r := h
 clear h
 obtain ⟨y127, hy127⟩ : ∃ y_ : List (S37), y_ = (([] : List (S37))) := ⟨_, rfl⟩
 replace H : (impl_SortRules.l0 k y127 l0 (l0.length : Int) 0) = some r := by first | (rw [hy127]; with_reducible exact H) | (have H2_ := (Option.bind_some _ _).symm.trans H; rw [hy127]; with_reducible exact H2_) | (have H2_ := (Option.bind_some _ _).symm.trans H; with_reducible exact H2_) | with_reducible exact H | (rw [hy127]; exact H) | exact H
 have Ny127 := Aside0.mk hy127
 clear hy127
 have H' := Aside0.mk H
 clear H
 go_enter Try.func16, Try.ntmps16
 go_wp2_with (first | ((with_reducible refine gate_dst (N := 6) rfl ?_); refine Kd.R_lit k37 _ 37 ?hg (N := 6) ?hd (xs := ([] : List (S37))) (inner := []) (ok := fun _ => True) (okp := fun _ => True) ?hr ?hp (fun _ hk => hk) trivial (Below.refl _ _) (Nat.le_refl _) (by simp) ?_; (case hd => rfl); (case hg => rfl); (case hr => first | (go_simp; done) | (go_simp; rfl)); (case hp => exact (Reps.none _ _)); intro v128 w2 ho3 hb hg_ hnew_; have HN0_ := Aside0.mk hnew_; clear hg_ hnew_; (first | rw [← Ny127.out] at ho3 | (simp only [Int.reduceToNat] at ho3; rw [← Ny127.out] at ho3)); have n0_ := am (Kd.R_lower ho3 (below_size (sB HB.out))); have n1_ := am (below_step (sB HB.out) hb); clear HB; have HO129 := n0_; have HB := n1_; clear n0_ n1_; clear hb ho3))
 go_loopg [3, 9] k (fun kq v3 v9 w' => ∃ (x3_1 : List (S37)) (x9_1 : Int), v9 = .int .i64 x9_1 ∧ Aside0 (impl_SortRules.l0 kq x3_1 l0 (l0.length : Int) x9_1 = some r) ∧ Aside0 (kq ≤ k) ∧ Aside0 (Kd.R k37 37 w' w.heap.size (fun _ => True) v3 x3_1) ∧ Aside0 (Below w.heap.size w w') ∧ Aside0 (∃ b, v3.ownBlock = some b))
 case atStart => exact ⟨(y127), (0), (by first | rfl | (simp; done) | (simp [*]; done)), H', ⟨Nat.le_refl _⟩, ⟨by (with_reducible repeat (first | apply Kd.R_alloc | apply Kd.R_drewN | apply Kd.R_drew)); exact HO129.out⟩, ⟨sB HB.out⟩, ⟨HN0_.out.imp fun _ h => h.1⟩⟩
 case round =>
  clear H'
  try clear c1
  try clear p2
  obtain ⟨x3_1, x9_1, rfl, HA, HK1, HO_3, HB, HNB⟩ := hrel
  cases gk with
  | zero => exact absurd HA.out (by simp [impl_SortRules.l0])
  | succ k1 =>
   have H := HA.out
   clear HA
   simp only [impl_SortRules.l0] at H
   by_cases c4 : x9_1 < (l0.length : Int)
   ·rw [if_pos c4] at H
    have c4b0 : decide (x9_1 < (l0.length : Int)) = true := decide_eq_true c4
    clear c4
    by_cases c5 : 0 ≤ x9_1
    ·rw [if_pos c5] at H
     have c5b0 : decide (0 ≤ x9_1) = true := decide_eq_true c5
     clear c5
     by_cases c6 : x9_1 < (l0.length : Int)
     ·rw [if_pos c6] at H
      have c6b0 : decide (x9_1 < (l0.length : Int)) = true := decide_eq_true c6
      clear c6
      replace H := Option.bind_eq_some_iff.mp H
      obtain ⟨t132, A70, H⟩ := H
      replace H : (if t132 = true then (if x3_1.length < 2199023255552 then (impl_SortRules.l0 k1 (x3_1 ++ [(⟨(rd_T37 l0 x9_1).f0, (rd_T37 l0 x9_1).f1, (⟨(rd_T37 l0 x9_1).f2.f0, (rd_T37 l0 x9_1).f2.f1⟩ : S35), (rd_T37 l0 x9_1).f3, (rd_T37 l0 x9_1).f4, (⟨(rd_T37 l0 x9_1).f5.f0, (rd_T37 l0 x9_1).f5.f1⟩ : S26)⟩ : S37)]) l0 (l0.length : Int) (wrap64 (x9_1 + 1))) else (none)) else (impl_SortRules.l0 k1 x3_1 l0 (l0.length : Int) (wrap64 (x9_1 + 1)))) = some r := H
      have A7 := Aside0.mk A70
      clear A70
      by_cases c8 : t132 = true
      ·subst c8
       have H1 : (if x3_1.length < 2199023255552 then (impl_SortRules.l0 k1 (x3_1 ++ [(⟨(rd_T37 l0 x9_1).f0, (rd_T37 l0 x9_1).f1, (⟨(rd_T37 l0 x9_1).f2.f0, (rd_T37 l0 x9_1).f2.f1⟩ : S35), (rd_T37 l0 x9_1).f3, (rd_T37 l0 x9_1).f4, (⟨(rd_T37 l0 x9_1).f5.f0, (rd_T37 l0 x9_1).f5.f1⟩ : S26)⟩ : S37)]) l0 (l0.length : Int) (wrap64 (x9_1 + 1))) else (none)) = some r := by rw [if_pos rfl] at H; exact H
       clear H
       have H := H1
       clear H1
       by_cases c9 : x3_1.length < 2199023255552
       ·rw [if_pos c9] at H
        have LMc9 := Aside0.mk c9
        clear c9
        obtain ⟨y133, hy133⟩ : ∃ y_ : List (S37), y_ = (x3_1 ++ [(⟨(rd_T37 l0 x9_1).f0, (rd_T37 l0 x9_1).f1, (⟨(rd_T37 l0 x9_1).f2.f0, (rd_T37 l0 x9_1).f2.f1⟩ : S35), (rd_T37 l0 x9_1).f3, (rd_T37 l0 x9_1).f4, (⟨(rd_T37 l0 x9_1).f5.f0, (rd_T37 l0 x9_1).f5.f1⟩ : S26)⟩ : S37)]) := ⟨_, rfl⟩
        replace H : (impl_SortRules.l0 k1 y133 l0 (l0.length : Int) (wrap64 (x9_1 + 1))) = some r := by first | (rw [hy133]; with_reducible exact H) | (have H2_ := (Option.bind_some _ _).symm.trans H; rw [hy133]; with_reducible exact H2_) | (have H2_ := (Option.bind_some _ _).symm.trans H; with_reducible exact H2_) | with_reducible exact H | (rw [hy133]; exact H) | exact H
        have Ny133 := Aside0.mk hy133
        clear hy133
        have H' := Aside0.mk H
        clear H
        have p130 : 0 ≤ (x9_1 : Int) := of_decide_eq_true (by first | (with_reducible assumption) | assumption)
        have q130 : x9_1 < (l0.length : Int) := of_decide_eq_true (by first | (with_reducible assumption) | assumption)
        obtain ⟨ad130, e130, hx130_0, hx130_1, hx130_2, hx130_3, hx130_4, hx130_5, hx130_6, hx130_7⟩ := at_T37 HR0.out x9_1 p130 q130
        cases e130
        replace hx130_0 := hc_ HB hx130_0
        replace hx130_1 := hc_ HB hx130_1
        replace hx130_2 := hc_ HB hx130_2
        replace hx130_3 := hc_ HB hx130_3
        replace hx130_4 := hc_ HB hx130_4
        replace hx130_5 := hc_ HB hx130_5
        replace hx130_6 := hc_ HB hx130_6
        replace hx130_7 := hc_ HB hx130_7
        replace p130 := eq_true p130
        replace q130 := eq_true q130
        go_wp2_with (first | ((with_reducible refine gate_dst (N := 5) rfl ?_); refine box_event ?hg (N := 5) ?hd (cs := #[.int .i64 0, .int .i64 0, .int .i64 0, .int .i64 0, .int .i64 0, .int .i64 0, .int .i64 0, .int .i64 0]) (t := 37) ?hr ?_; (case hd => rfl); (case hg => rfl); (case hr => first | (go_simp; done) | (go_simp; rfl)); intro gb131 hg w10 hbox hb; have n0_ := am (Kd.R_below (Kd.R_elderB (rB HO_3.out) gb131 (Nat.le_of_eq hg.symm)) hb); have q_ := hbx_ (sB HB.out) hg hb; have n1_ := q_.1; have n2_ := am (hbox); have n3_ := q_.2; have n4_ := n3_; clear HO_3; clear HB; have HO_3 := n0_; have HB := n1_; have BK131 := n2_; have GW131 := n3_; have GE131 := n4_; clear n0_ n1_ n2_ n3_ n4_; clear hb hbox hg; obtain ⟨hcz11_0, hcz11_1, hcz11_2, hcz11_3, hcz11_4, hcz11_5, hcz11_6, hcz11_7, hfz11_0, hfz11_1, hfz11_2, hfz11_3, hfz11_4, hfz11_5, hfz11_6, hfz11_7⟩ := blk8 BK131.out) | ((with_reducible refine gate_callee (f := 40) rfl ?_); refine goesL_ (some 14) rfl rfl Try.func40 (by kernel_rfl) rfl #[.agg #[.int .i64 ((rd_T37 l0 x9_1).f0), .int .i64 ((rd_T37 l0 x9_1).f1), .int .i64 ((rd_T37 l0 x9_1).f2.f0), .int .i64 ((rd_T37 l0 x9_1).f2.f1), .int .i64 ((rd_T37 l0 x9_1).f3), .int .i64 ((rd_T37 l0 x9_1).f4), .int .i64 ((rd_T37 l0 x9_1).f5.f0), .int .i64 ((rd_T37 l0 x9_1).f5.f1)]] rfl (by (try simp only [List.map_toArray, List.map_cons, List.map_nil]); first | done | rfl | (simp only [List.length_drop, List.length_take]; rfl)) ?_; (with_reducible refine (impl_IsRule.calls k1 ((rd_T37 l0 x9_1).f0) ((rd_T37 l0 x9_1).f1) ((rd_T37 l0 x9_1).f2.f0) ((rd_T37 l0 x9_1).f2.f1) ((rd_T37 l0 x9_1).f3) ((rd_T37 l0 x9_1).f4) ((rd_T37 l0 x9_1).f5.f0) ((rd_T37 l0 x9_1).f5.f1) true _ A7.out).mono ?_); rintro e w12 ⟨rfl, hb⟩; refine ⟨_, rfl, ?_⟩; replace HO_3 := am (Kd.R_below (by (with_reducible repeat (first | apply Kd.R_alloc | apply Kd.R_drewN | apply Kd.R_drew)); exact (Kd.R_mono (Kd.R_far (p := ⟨gb131, 7, none⟩) (Kd.R_far (p := ⟨gb131, 6, none⟩) (Kd.R_far (p := ⟨gb131, 5, none⟩) (Kd.R_far (p := ⟨gb131, 4, none⟩) (Kd.R_far (p := ⟨gb131, 3, none⟩) (Kd.R_far (p := ⟨gb131, 2, none⟩) (Kd.R_far (p := ⟨gb131, 1, none⟩) (Kd.R_far (p := ⟨gb131, 0, none⟩) (Kd.R_mono HO_3.out (fun k_ hk => (⟨hk, hk.2⟩ : _ ∧ k_ ≠ gb131))) (fun _ hk => hk.2) (.int .i64 ((rd_T37 l0 x9_1).f0))) (fun _ hk => hk.2) (.int .i64 ((rd_T37 l0 x9_1).f1))) (fun _ hk => hk.2) (.int .i64 ((rd_T37 l0 x9_1).f2.f0))) (fun _ hk => hk.2) (.int .i64 ((rd_T37 l0 x9_1).f2.f1))) (fun _ hk => hk.2) (.int .i64 ((rd_T37 l0 x9_1).f3))) (fun _ hk => hk.2) (.int .i64 ((rd_T37 l0 x9_1).f4))) (fun _ hk => hk.2) (.int .i64 ((rd_T37 l0 x9_1).f5.f0))) (fun _ hk => hk.2) (.int .i64 ((rd_T37 l0 x9_1).f5.f1))) (fun _ h_ => h_.1))) hb); replace BK131 := am (blk_below (g := gb131) (o := .cells #[.int .i64 ((rd_T37 l0 x9_1).f0), .int .i64 ((rd_T37 l0 x9_1).f1), .int .i64 ((rd_T37 l0 x9_1).f2.f0), .int .i64 ((rd_T37 l0 x9_1).f2.f1), .int .i64 ((rd_T37 l0 x9_1).f3), .int .i64 ((rd_T37 l0 x9_1).f4), .int .i64 ((rd_T37 l0 x9_1).f5.f0), .int .i64 ((rd_T37 l0 x9_1).f5.f1)] 37 (0, 0)) (by refine bB ?_; refine blk_put (cs := #[.int .i64 ((rd_T37 l0 x9_1).f0), .int .i64 ((rd_T37 l0 x9_1).f1), .int .i64 ((rd_T37 l0 x9_1).f2.f0), .int .i64 ((rd_T37 l0 x9_1).f2.f1), .int .i64 ((rd_T37 l0 x9_1).f3), .int .i64 ((rd_T37 l0 x9_1).f4), .int .i64 ((rd_T37 l0 x9_1).f5.f0), .int .i64 0]) ?_ 7 _ rfl; refine bB ?_; refine blk_put (cs := #[.int .i64 ((rd_T37 l0 x9_1).f0), .int .i64 ((rd_T37 l0 x9_1).f1), .int .i64 ((rd_T37 l0 x9_1).f2.f0), .int .i64 ((rd_T37 l0 x9_1).f2.f1), .int .i64 ((rd_T37 l0 x9_1).f3), .int .i64 ((rd_T37 l0 x9_1).f4), .int .i64 0, .int .i64 0]) ?_ 6 _ rfl; refine bB ?_; refine blk_put (cs := #[.int .i64 ((rd_T37 l0 x9_1).f0), .int .i64 ((rd_T37 l0 x9_1).f1), .int .i64 ((rd_T37 l0 x9_1).f2.f0), .int .i64 ((rd_T37 l0 x9_1).f2.f1), .int .i64 ((rd_T37 l0 x9_1).f3), .int .i64 0, .int .i64 0, .int .i64 0]) ?_ 5 _ rfl; refine bB ?_; refine blk_put (cs := #[.int .i64 ((rd_T37 l0 x9_1).f0), .int .i64 ((rd_T37 l0 x9_1).f1), .int .i64 ((rd_T37 l0 x9_1).f2.f0), .int .i64 ((rd_T37 l0 x9_1).f2.f1), .int .i64 0, .int .i64 0, .int .i64 0, .int .i64 0]) ?_ 4 _ rfl; refine bB ?_; refine blk_put (cs := #[.int .i64 ((rd_T37 l0 x9_1).f0), .int .i64 ((rd_T37 l0 x9_1).f1), .int .i64 ((rd_T37 l0 x9_1).f2.f0), .int .i64 0, .int .i64 0, .int .i64 0, .int .i64 0, .int .i64 0]) ?_ 3 _ rfl; refine bB ?_; refine blk_put (cs := #[.int .i64 ((rd_T37 l0 x9_1).f0), .int .i64 ((rd_T37 l0 x9_1).f1), .int .i64 0, .int .i64 0, .int .i64 0, .int .i64 0, .int .i64 0, .int .i64 0]) ?_ 2 _ rfl; refine bB ?_; refine blk_put (cs := #[.int .i64 ((rd_T37 l0 x9_1).f0), .int .i64 0, .int .i64 0, .int .i64 0, .int .i64 0, .int .i64 0, .int .i64 0, .int .i64 0]) ?_ 1 _ rfl; refine bB ?_; refine blk_put (cs := #[.int .i64 0, .int .i64 0, .int .i64 0, .int .i64 0, .int .i64 0, .int .i64 0, .int .i64 0, .int .i64 0]) ?_ 0 _ rfl; refine bB ?_; exact BK131.out) hb); replace HB := am (below_step (sB HB.out) hb); (try clear hb); (try clear hb2); (try clear hk); (try clear hi); obtain ⟨hcz13_0, hcz13_1, hcz13_2, hcz13_3, hcz13_4, hcz13_5, hcz13_6, hcz13_7, hfz13_0, hfz13_1, hfz13_2, hfz13_3, hfz13_4, hfz13_5, hfz13_6, hfz13_7⟩ := blk8 BK131.out) | ((with_reducible refine gate_builtin (b := .append) (xs := #[.tmp 15, .tmp 17]) rfl ?_); at_builtin; refine Kd.R_append k37 (w0 := w) w.heap.size rfl (.tmp 15) (.tmp 17) 24 37 (.agg #[(.int .i64 0), (.int .i64 0), (.int .i64 0), (.int .i64 0), (.int .i64 0), (.int .i64 0), (.int .i64 0), (.int .i64 0)]) 64 rfl Try.underlying24 info37 rfl (by decide) (by omega) u3 x3_1 (⟨(rd_T37 l0 x9_1).f0, (rd_T37 l0 x9_1).f1, (⟨(rd_T37 l0 x9_1).f2.f0, (rd_T37 l0 x9_1).f2.f1⟩ : S35), (rd_T37 l0 x9_1).f3, (rd_T37 l0 x9_1).f4, (⟨(rd_T37 l0 x9_1).f5.f0, (rd_T37 l0 x9_1).f5.f1⟩ : S26)⟩ : S37) [.int .i64 ((rd_T37 l0 x9_1).f0), .int .i64 ((rd_T37 l0 x9_1).f1), .int .i64 ((rd_T37 l0 x9_1).f2.f0), .int .i64 ((rd_T37 l0 x9_1).f2.f1), .int .i64 ((rd_T37 l0 x9_1).f3), .int .i64 ((rd_T37 l0 x9_1).f4), .int .i64 ((rd_T37 l0 x9_1).f5.f0), .int .i64 ((rd_T37 l0 x9_1).f5.f1)] (fun k_ => k_ ≠ gb131) (fun _ => False) rfl rfl ?aP (fun _ hk => hk.elim) ?aF ?aO ?aB ?aS ?aL ?_; (case aP => exact k37_mkM _ _ _ (⟨(rd_T37 l0 x9_1).f0, (rd_T37 l0 x9_1).f1, (⟨(rd_T37 l0 x9_1).f2.f0, (rd_T37 l0 x9_1).f2.f1⟩ : S35), (rd_T37 l0 x9_1).f3, (rd_T37 l0 x9_1).f4, (⟨(rd_T37 l0 x9_1).f5.f0, (rd_T37 l0 x9_1).f5.f1⟩ : S26)⟩ : S37)); (case aB => exact (sB HB.out)); (case aF => exact (fun k_ hk => Kd.freshB (g := gb131) (o := .cells #[.int .i64 ((rd_T37 l0 x9_1).f0), .int .i64 ((rd_T37 l0 x9_1).f1), .int .i64 ((rd_T37 l0 x9_1).f2.f0), .int .i64 ((rd_T37 l0 x9_1).f2.f1), .int .i64 ((rd_T37 l0 x9_1).f3), .int .i64 ((rd_T37 l0 x9_1).f4), .int .i64 ((rd_T37 l0 x9_1).f5.f0), .int .i64 ((rd_T37 l0 x9_1).f5.f1)] 37 (0, 0)) (bB BK131.out) k_ hk)); (case aO => exact (by (with_reducible repeat (first | apply Kd.R_alloc | apply Kd.R_drewN | apply Kd.R_drew)); exact Kd.R_mono HO_3.out (fun _ hk => hk.2))); (case aS => exact (below_size (sB HB.out))); (case aL => have := LMc9.out; omega); intro v134 w14 ho hb hg hat; rw [← Ny133.out] at ho; have n0_ := am (blk_grown (g := gb131) (o := .cells #[.int .i64 ((rd_T37 l0 x9_1).f0), .int .i64 ((rd_T37 l0 x9_1).f1), .int .i64 ((rd_T37 l0 x9_1).f2.f0), .int .i64 ((rd_T37 l0 x9_1).f2.f1), .int .i64 ((rd_T37 l0 x9_1).f3), .int .i64 ((rd_T37 l0 x9_1).f4), .int .i64 ((rd_T37 l0 x9_1).f5.f0), .int .i64 ((rd_T37 l0 x9_1).f5.f1)] 37 (0, 0)) (bB BK131.out) hg (Kd.R_away HO_3.out (fun _ hk => hk.2))); have n1_ := am (hb); have n2_ := am (ho); clear BK131; clear HB; clear HO_3; have BK131 := n0_; have HB := n1_; have HO135 := n2_; clear n0_ n1_ n2_; clear ho hb hg hat))
        go_roundg k1
        case measure => have := HK1.out; omega
        case rel => exact ⟨(y133), (wrap64 (x9_1 + 1)), (by first | rfl | (simp; done) | (simp [*]; done)), H', ⟨by have := HK1.out; omega⟩, ⟨by (with_reducible repeat (first | apply Kd.R_alloc | apply Kd.R_drewN | apply Kd.R_drew)); exact Kd.R_mono HO135.out (fun _ hk => trivial)⟩, ⟨sB HB.out⟩, ⟨R_own_ne HO135.out (by rw [Ny133.out]; simp)⟩⟩
       ·rw [if_neg c9] at H
        exact absurd H (by simp)
      ·replace c8 := Bool.eq_false_iff.mpr c8
       subst c8
       have H1 : (impl_SortRules.l0 k1 x3_1 l0 (l0.length : Int) (wrap64 (x9_1 + 1))) = some r := by rw [if_neg (show ¬ (false = true) by decide)] at H; exact H
       clear H
       have H := H1
       clear H1
       have H' := Aside0.mk H
       clear H
       have p130 : 0 ≤ (x9_1 : Int) := of_decide_eq_true (by first | (with_reducible assumption) | assumption)
       have q130 : x9_1 < (l0.length : Int) := of_decide_eq_true (by first | (with_reducible assumption) | assumption)
       obtain ⟨ad130, e130, hx130_0, hx130_1, hx130_2, hx130_3, hx130_4, hx130_5, hx130_6, hx130_7⟩ := at_T37 HR0.out x9_1 p130 q130
       cases e130
       replace hx130_0 := hc_ HB hx130_0
       replace hx130_1 := hc_ HB hx130_1
       replace hx130_2 := hc_ HB hx130_2
       replace hx130_3 := hc_ HB hx130_3
       replace hx130_4 := hc_ HB hx130_4
       replace hx130_5 := hc_ HB hx130_5
       replace hx130_6 := hc_ HB hx130_6
       replace hx130_7 := hc_ HB hx130_7
       replace p130 := eq_true p130
       replace q130 := eq_true q130
       go_wp2_with (first | ((with_reducible refine gate_dst (N := 5) rfl ?_); refine box_event ?hg (N := 5) ?hd (cs := #[.int .i64 0, .int .i64 0, .int .i64 0, .int .i64 0, .int .i64 0, .int .i64 0, .int .i64 0, .int .i64 0]) (t := 37) ?hr ?_; (case hd => rfl); (case hg => rfl); (case hr => first | (go_simp; done) | (go_simp; rfl)); intro gb131 hg w15 hbox hb; have n0_ := am (Kd.R_below (Kd.R_elderB (rB HO_3.out) gb131 (Nat.le_of_eq hg.symm)) hb); have q_ := hbx_ (sB HB.out) hg hb; have n1_ := q_.1; have n2_ := am (hbox); have n3_ := q_.2; have n4_ := n3_; clear HO_3; clear HB; have HO_3 := n0_; have HB := n1_; have BK131 := n2_; have GW131 := n3_; have GE131 := n4_; clear n0_ n1_ n2_ n3_ n4_; clear hb hbox hg; obtain ⟨hcz16_0, hcz16_1, hcz16_2, hcz16_3, hcz16_4, hcz16_5, hcz16_6, hcz16_7, hfz16_0, hfz16_1, hfz16_2, hfz16_3, hfz16_4, hfz16_5, hfz16_6, hfz16_7⟩ := blk8 BK131.out) | ((with_reducible refine gate_callee (f := 40) rfl ?_); refine goesL_ (some 14) rfl rfl Try.func40 (by kernel_rfl) rfl #[.agg #[.int .i64 ((rd_T37 l0 x9_1).f0), .int .i64 ((rd_T37 l0 x9_1).f1), .int .i64 ((rd_T37 l0 x9_1).f2.f0), .int .i64 ((rd_T37 l0 x9_1).f2.f1), .int .i64 ((rd_T37 l0 x9_1).f3), .int .i64 ((rd_T37 l0 x9_1).f4), .int .i64 ((rd_T37 l0 x9_1).f5.f0), .int .i64 ((rd_T37 l0 x9_1).f5.f1)]] rfl (by (try simp only [List.map_toArray, List.map_cons, List.map_nil]); first | done | rfl | (simp only [List.length_drop, List.length_take]; rfl)) ?_; (with_reducible refine (impl_IsRule.calls k1 ((rd_T37 l0 x9_1).f0) ((rd_T37 l0 x9_1).f1) ((rd_T37 l0 x9_1).f2.f0) ((rd_T37 l0 x9_1).f2.f1) ((rd_T37 l0 x9_1).f3) ((rd_T37 l0 x9_1).f4) ((rd_T37 l0 x9_1).f5.f0) ((rd_T37 l0 x9_1).f5.f1) false _ A7.out).mono ?_); rintro e w17 ⟨rfl, hb⟩; refine ⟨_, rfl, ?_⟩; replace HO_3 := am (Kd.R_below (by (with_reducible repeat (first | apply Kd.R_alloc | apply Kd.R_drewN | apply Kd.R_drew)); exact (Kd.R_mono (Kd.R_far (p := ⟨gb131, 7, none⟩) (Kd.R_far (p := ⟨gb131, 6, none⟩) (Kd.R_far (p := ⟨gb131, 5, none⟩) (Kd.R_far (p := ⟨gb131, 4, none⟩) (Kd.R_far (p := ⟨gb131, 3, none⟩) (Kd.R_far (p := ⟨gb131, 2, none⟩) (Kd.R_far (p := ⟨gb131, 1, none⟩) (Kd.R_far (p := ⟨gb131, 0, none⟩) (Kd.R_mono HO_3.out (fun k_ hk => (⟨hk, hk.2⟩ : _ ∧ k_ ≠ gb131))) (fun _ hk => hk.2) (.int .i64 ((rd_T37 l0 x9_1).f0))) (fun _ hk => hk.2) (.int .i64 ((rd_T37 l0 x9_1).f1))) (fun _ hk => hk.2) (.int .i64 ((rd_T37 l0 x9_1).f2.f0))) (fun _ hk => hk.2) (.int .i64 ((rd_T37 l0 x9_1).f2.f1))) (fun _ hk => hk.2) (.int .i64 ((rd_T37 l0 x9_1).f3))) (fun _ hk => hk.2) (.int .i64 ((rd_T37 l0 x9_1).f4))) (fun _ hk => hk.2) (.int .i64 ((rd_T37 l0 x9_1).f5.f0))) (fun _ hk => hk.2) (.int .i64 ((rd_T37 l0 x9_1).f5.f1))) (fun _ h_ => h_.1))) hb); replace BK131 := am (blk_below (g := gb131) (o := .cells #[.int .i64 ((rd_T37 l0 x9_1).f0), .int .i64 ((rd_T37 l0 x9_1).f1), .int .i64 ((rd_T37 l0 x9_1).f2.f0), .int .i64 ((rd_T37 l0 x9_1).f2.f1), .int .i64 ((rd_T37 l0 x9_1).f3), .int .i64 ((rd_T37 l0 x9_1).f4), .int .i64 ((rd_T37 l0 x9_1).f5.f0), .int .i64 ((rd_T37 l0 x9_1).f5.f1)] 37 (0, 0)) (by refine bB ?_; refine blk_put (cs := #[.int .i64 ((rd_T37 l0 x9_1).f0), .int .i64 ((rd_T37 l0 x9_1).f1), .int .i64 ((rd_T37 l0 x9_1).f2.f0), .int .i64 ((rd_T37 l0 x9_1).f2.f1), .int .i64 ((rd_T37 l0 x9_1).f3), .int .i64 ((rd_T37 l0 x9_1).f4), .int .i64 ((rd_T37 l0 x9_1).f5.f0), .int .i64 0]) ?_ 7 _ rfl; refine bB ?_; refine blk_put (cs := #[.int .i64 ((rd_T37 l0 x9_1).f0), .int .i64 ((rd_T37 l0 x9_1).f1), .int .i64 ((rd_T37 l0 x9_1).f2.f0), .int .i64 ((rd_T37 l0 x9_1).f2.f1), .int .i64 ((rd_T37 l0 x9_1).f3), .int .i64 ((rd_T37 l0 x9_1).f4), .int .i64 0, .int .i64 0]) ?_ 6 _ rfl; refine bB ?_; refine blk_put (cs := #[.int .i64 ((rd_T37 l0 x9_1).f0), .int .i64 ((rd_T37 l0 x9_1).f1), .int .i64 ((rd_T37 l0 x9_1).f2.f0), .int .i64 ((rd_T37 l0 x9_1).f2.f1), .int .i64 ((rd_T37 l0 x9_1).f3), .int .i64 0, .int .i64 0, .int .i64 0]) ?_ 5 _ rfl; refine bB ?_; refine blk_put (cs := #[.int .i64 ((rd_T37 l0 x9_1).f0), .int .i64 ((rd_T37 l0 x9_1).f1), .int .i64 ((rd_T37 l0 x9_1).f2.f0), .int .i64 ((rd_T37 l0 x9_1).f2.f1), .int .i64 0, .int .i64 0, .int .i64 0, .int .i64 0]) ?_ 4 _ rfl; refine bB ?_; refine blk_put (cs := #[.int .i64 ((rd_T37 l0 x9_1).f0), .int .i64 ((rd_T37 l0 x9_1).f1), .int .i64 ((rd_T37 l0 x9_1).f2.f0), .int .i64 0, .int .i64 0, .int .i64 0, .int .i64 0, .int .i64 0]) ?_ 3 _ rfl; refine bB ?_; refine blk_put (cs := #[.int .i64 ((rd_T37 l0 x9_1).f0), .int .i64 ((rd_T37 l0 x9_1).f1), .int .i64 0, .int .i64 0, .int .i64 0, .int .i64 0, .int .i64 0, .int .i64 0]) ?_ 2 _ rfl; refine bB ?_; refine blk_put (cs := #[.int .i64 ((rd_T37 l0 x9_1).f0), .int .i64 0, .int .i64 0, .int .i64 0, .int .i64 0, .int .i64 0, .int .i64 0, .int .i64 0]) ?_ 1 _ rfl; refine bB ?_; refine blk_put (cs := #[.int .i64 0, .int .i64 0, .int .i64 0, .int .i64 0, .int .i64 0, .int .i64 0, .int .i64 0, .int .i64 0]) ?_ 0 _ rfl; refine bB ?_; exact BK131.out) hb); replace HB := am (below_step (sB HB.out) hb); (try clear hb); (try clear hb2); (try clear hk); (try clear hi)))
       go_roundg k1
       case measure => have := HK1.out; omega
       case rel => exact ⟨(x3_1), (wrap64 (x9_1 + 1)), (by first | rfl | (simp; done) | (simp [*]; done)), H', ⟨by have := HK1.out; omega⟩, ⟨by (with_reducible repeat (first | apply Kd.R_alloc | apply Kd.R_drewN | apply Kd.R_drew)); exact Kd.R_mono HO_3.out (fun _ hk => trivial)⟩, ⟨sB HB.out⟩, HNB⟩
     ·rw [if_neg c6] at H
      exact absurd H (by simp)
    ·rw [if_neg c5] at H
     exact absurd H (by simp)
   ·rw [if_neg c4] at H
    have c4b0 : decide (x9_1 < (l0.length : Int)) = false := decide_eq_false c4
    clear c4
    by_cases cz : x3_1.length < 4611686018427387904
    ·rw [if_pos cz] at H
     obtain rfl := Option.some.inj H
     go_wp2_with (first | ((with_reducible refine gate_callee (f := 43) rfl ?_); refine goesL_ (some 21) rfl rfl Try.func43 (by kernel_rfl) rfl #[u3, .func (.func 44) #[] #[]] rfl (by (try simp only [List.map_toArray, List.map_cons, List.map_nil]); first | done | rfl) ?_; refine Calls.mono (sort_calls (v := u3) (xs := x3_1) (base := w.heap.size) (ok := fun _ => True) ?hS HNB.out cz) ?_; (case hS => ((with_reducible repeat (first | apply Kd.R_alloc | apply Kd.R_drewN | apply Kd.R_drew)); exact HO_3.out)); rintro e w1 ⟨rfl, hR, hB2⟩; refine ⟨_, rfl, ?_⟩))
     go_ret
     exact ⟨_, rfl, by (with_reducible repeat (first | apply Kd.R_alloc | apply Kd.R_drewN | apply Kd.R_drew)); exact hR, by repeat (first | (with_reducible first | exact HB.out.trans hB2 | apply below_alloc | apply pw_below_drewN | apply below_drew1) | exact HB.out.trans hB2)⟩
    ·rw [if_neg cz] at H
     exact absurd H (by simp)

end Go.Proofs.Ytepndcpncndjdaa.QS
