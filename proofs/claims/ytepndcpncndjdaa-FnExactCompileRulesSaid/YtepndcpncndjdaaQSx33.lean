/- Go functions as Lean functions, each with its walk; printed by a program of this session (a scratch copy of print.py that follows nested field addresses and tells a law for the answer true). -/
import Derived.Test.YtepndcpncndjdaaQSx0
import Derived.Test.YtepndcpncndjdaaQSx31
import Derived.Test.YtepndcpncndjdaaQSxM4
namespace Go.Proofs.Ytepndcpncndjdaa.QS
open Go.RowKit Go.Proofs.YtepndcpncndjdaaW.PrintWords Go.Proofs.YtepndcpncndjdaaW.PrintLast Go.Proofs.YtepndcpncndjdaaW.PrintMore Go.Proofs.Ytepndcpncndjdaa.Short
attribute [local go_sem] max2_int min2_int max_two min_two max_three min_three max_four min_four   -- for this text's walks alone
set_option linter.unusedVariables false
set_option linter.unusedSimpArgs false

/-! ### spec_SortRules: function 32 -/
mutual
def spec_SortRules.l0 : Nat → List (S37) → List (S37) → Int → Option ((List (S37)))
 | 0, _, _, _ => none
 | k + 1, x0, x3, x4 => if x4 < (x0.length : Int) then (if 0 ≤ x4 then ((spec_IsRule.f ((rd_T37 x0 x4).f0) ((rd_T37 x0 x4).f1) ((rd_T37 x0 x4).f2.f0) ((rd_T37 x0 x4).f2.f1) ((rd_T37 x0 x4).f3) ((rd_T37 x0 x4).f4) ((rd_T37 x0 x4).f5.f0) ((rd_T37 x0 x4).f5.f1)).bind fun t200 => (if t200 = true then (spec_SortRules.l1 k x0 x3 x4 (x3.length : Int)) else (spec_SortRules.l0 k x0 x3 (wrap64 (x4 + 1))))) else (none)) else (some x3)
def spec_SortRules.l1 : Nat → List (S37) → List (S37) → Int → Int → Option ((List (S37)))
 | 0, _, _, _, _ => none
 | k + 1, x0, x3, x4, x5 => if x5 > 0 then (if 0 ≤ x4 then (if x4 < (x0.length : Int) then (if 0 ≤ (wrap64 (x5 - 1)) then (if (wrap64 (x5 - 1)) < (x3.length : Int) then ((spec_IsBefore.f ((rd_T37 x0 x4).f0) ((rd_T37 x0 x4).f1) ((rd_T37 x0 x4).f2.f0) ((rd_T37 x0 x4).f2.f1) ((rd_T37 x0 x4).f3) ((rd_T37 x0 x4).f4) ((rd_T37 x0 x4).f5.f0) ((rd_T37 x0 x4).f5.f1) ((rd_T37 x3 (wrap64 (x5 - 1))).f0) ((rd_T37 x3 (wrap64 (x5 - 1))).f1) ((rd_T37 x3 (wrap64 (x5 - 1))).f2.f0) ((rd_T37 x3 (wrap64 (x5 - 1))).f2.f1) ((rd_T37 x3 (wrap64 (x5 - 1))).f3) ((rd_T37 x3 (wrap64 (x5 - 1))).f4) ((rd_T37 x3 (wrap64 (x5 - 1))).f5.f0) ((rd_T37 x3 (wrap64 (x5 - 1))).f5.f1)).bind fun t203 => (if t203 = true then (spec_SortRules.l1 k x0 x3 x4 (wrap64 (x5 - 1))) else ((some (([] : List (S37)) : List (S37))).bind fun y204 => (if 0 ≤ x5 then (if x5 ≤ (x3.length : Int) then ((some (x3.take (x5 : Int).toNat : List (S37))).bind fun y207 => (if y204.length + y207.length < 2199023255552 then ((some (y204 ++ y207 : List (S37))).bind fun y211 => ((some (([(⟨(rd_T37 x0 x4).f0, (rd_T37 x0 x4).f1, (⟨(rd_T37 x0 x4).f2.f0, (rd_T37 x0 x4).f2.f1⟩ : S35), (rd_T37 x0 x4).f3, (rd_T37 x0 x4).f4, (⟨(rd_T37 x0 x4).f5.f0, (rd_T37 x0 x4).f5.f1⟩ : S26)⟩ : S37)] : List (S37)) : List (S37))).bind fun y215 => (if y211.length + y215.length < 2199023255552 then ((some (y211 ++ y215 : List (S37))).bind fun y218 => ((some (x3.drop (x5 : Int).toNat : List (S37))).bind fun y221 => (if y218.length + y221.length < 2199023255552 then (spec_SortRules.l0 k x0 (y218 ++ y221) (wrap64 (x4 + 1))) else (none)))) else (none)))) else (none))) else (none)) else (none))))) else (none)) else (none)) else (none)) else (none)) else ((some (([] : List (S37)) : List (S37))).bind fun y228 => (if 0 ≤ x5 then (if x5 ≤ (x3.length : Int) then ((some (x3.take (x5 : Int).toNat : List (S37))).bind fun y231 => (if y228.length + y231.length < 2199023255552 then ((some (y228 ++ y231 : List (S37))).bind fun y235 => (if 0 ≤ x4 then (if x4 < (x0.length : Int) then ((some (([(⟨(rd_T37 x0 x4).f0, (rd_T37 x0 x4).f1, (⟨(rd_T37 x0 x4).f2.f0, (rd_T37 x0 x4).f2.f1⟩ : S35), (rd_T37 x0 x4).f3, (rd_T37 x0 x4).f4, (⟨(rd_T37 x0 x4).f5.f0, (rd_T37 x0 x4).f5.f1⟩ : S26)⟩ : S37)] : List (S37)) : List (S37))).bind fun y239 => (if y235.length + y239.length < 2199023255552 then ((some (y235 ++ y239 : List (S37))).bind fun y242 => ((some (x3.drop (x5 : Int).toNat : List (S37))).bind fun y245 => (if y242.length + y245.length < 2199023255552 then (spec_SortRules.l0 k x0 (y242 ++ y245) (wrap64 (x4 + 1))) else (none)))) else (none))) else (none)) else (none))) else (none))) else (none)) else (none)))
end
def spec_SortRules.f (k : Nat) (l0 : List (S37)) : Option ((List (S37))) := spec_SortRules.l0 k l0 (([] : List (S37))) 0
theorem spec_SortRules.mono_l : ∀ k, (∀ y0 y1 y2, LeO (spec_SortRules.l0 k y0 y1 y2) (spec_SortRules.l0 (k + 1) y0 y1 y2)) ∧ (∀ y0 y1 y2 y3, LeO (spec_SortRules.l1 k y0 y1 y2 y3) (spec_SortRules.l1 (k + 1) y0 y1 y2 y3))
 | 0 => ⟨fun _ _ _ r h => by simp [spec_SortRules.l0] at h, fun _ _ _ _ r h => by simp [spec_SortRules.l1] at h⟩
 | k + 1 => by
  obtain ⟨ih0, ih1⟩ := spec_SortRules.mono_l k
  refine ⟨?_, ?_⟩
  ·intro y0 y1 y2
   unfold spec_SortRules.l0
   repeat' first
   | (with_reducible exact ih0 _ _ _)
   | (with_reducible exact ih1 _ _ _ _)
   | (with_reducible exact LeO.refl _)
   | (with_reducible exact LeO.none _)
   | (with_reducible refine LeO.ite ?_ ?_)
   | (with_reducible refine LeO.bind ?_ (fun _ => ?_))
   | exact ih0 _ _ _
   | exact ih1 _ _ _ _
   | exact LeO.none _
   | refine LeO.ite ?_ ?_
   | refine LeO.bind ?_ (fun _ => ?_)
  ·intro y0 y1 y2 y3
   unfold spec_SortRules.l1
   repeat' first
   | (with_reducible exact ih0 _ _ _)
   | (with_reducible exact ih1 _ _ _ _)
   | (with_reducible exact LeO.refl _)
   | (with_reducible exact LeO.none _)
   | (with_reducible refine LeO.ite ?_ ?_)
   | (with_reducible refine LeO.bind ?_ (fun _ => ?_))
   | exact ih0 _ _ _
   | exact ih1 _ _ _ _
   | exact LeO.none _
   | refine LeO.ite ?_ ?_
   | refine LeO.bind ?_ (fun _ => ?_)
theorem spec_SortRules.mono : ∀ a0 k, LeO (spec_SortRules.f k a0) (spec_SortRules.f (k + 1) a0) := by
 intro a0 k
 obtain ⟨ih0, ih1⟩ := spec_SortRules.mono_l k
 unfold spec_SortRules.f
 repeat' first
   | (with_reducible exact ih0 _ _ _)
   | (with_reducible exact ih1 _ _ _ _)
   | (with_reducible exact LeO.refl _)
   | (with_reducible exact LeO.none _)
   | (with_reducible refine LeO.ite ?_ ?_)
   | (with_reducible refine LeO.bind ?_ (fun _ => ?_))
   | exact ih0 _ _ _
   | exact ih1 _ _ _ _
   | exact LeO.none _
   | refine LeO.ite ?_ ?_
   | refine LeO.bind ?_ (fun _ => ?_)
def spec_SortRules.T7 : Bool × List (List Nat × List Nat) := (true, [([], []), ([0], [0]), ([1], [1]), ([2], [2]), ([2], [2]), ([3, 4, 2], [2, 3, 4]), ([5, 2], [2, 5]), ([2], [2]), ([2], [2]), ([8, 2], [2, 8]), ([7, 9, 2], [2, 7, 9]), ([10, 2], [2, 10]), ([6, 11, 2, 2], [2, 6, 11]), ([2, 12], [2, 12])])
def spec_SortRules.B7 : List Nat := [0, 1, 3, 7, 7, 31, 63, 7, 7, 263, 903, 1927, 4095, 8191]
theorem spec_SortRules.tab7 : rtab .any (opsOf Try.f32 7) = spec_SortRules.T7 := by kernel_rfl
theorem spec_SortRules.bits7 : waitsOk spec_SortRules.T7.2 spec_SortRules.B7 = true := by kernel_rfl
def spec_SortRules.T9 : Bool × List (List Nat × List Nat) := (true, [([], []), ([], []), ([], []), ([1, 2], [1, 2]), ([0, 3], [0, 3]), ([], []), ([], []), ([5, 6], [5, 6]), ([7], [7]), ([8], [8]), ([4, 9, 4], [4, 9]), ([], []), ([], []), ([11, 12], [11, 12]), ([10, 13, 10], [10, 13]), ([14, 14, 0, 1, 2, 3, 4, 5, 6, 7, 8, 9, 10, 11, 12, 13, 14], [1, 11, 14])])
def spec_SortRules.B9 : List Nat := [0, 0, 0, 6, 15, 0, 0, 96, 224, 480, 1023, 0, 0, 6144, 16383, 32767]
theorem spec_SortRules.tab9 : rtab .any (opsOf Try.f32 9) = spec_SortRules.T9 := by kernel_rfl
theorem spec_SortRules.bits9 : waitsOk spec_SortRules.T9.2 spec_SortRules.B9 = true := by kernel_rfl
set_option maxHeartbeats 8000000 in
set_option maxRecDepth 100000 in
theorem spec_SortRules.calls (k : Nat) (A0 : Option Addr) (c0 : Nat) (l0 : List (S37)) (r : List (S37)) (w : World) (hr0 : Kd.C k37 w A0 l0.length l0) (hc0 : l0.length ≤ c0) (h : spec_SortRules.f k l0 = some r) :
  Calls Try.prog 32 #[.slice A0 l0.length c0] w fun e w' => ∃ v0_ : Value, e = .returned (v0_) ∧ Kd.R k37 37 w' w.heap.size (fun _ => True) v0_ r ∧ Below w.heap.size w w' := by
 have hu37 := Try.underlying37
 have HR0 := Aside0.mk hr0
 have HC0 := Aside0.mk hc0
 clear hr0 hc0
 have HB := am (Below.refl w.heap.size w)
 have H : (spec_SortRules.l0 k l0 (([] : List (S37))) 0) = some r := h
 clear h
 obtain ⟨y196, hy196⟩ : ∃ y_ : List (S37), y_ = (([] : List (S37))) := ⟨_, rfl⟩
 replace H : (spec_SortRules.l0 k l0 y196 0) = some r := by first | (rw [hy196]; with_reducible exact H) | (have H2_ := (Option.bind_some _ _).symm.trans H; rw [hy196]; with_reducible exact H2_) | (have H2_ := (Option.bind_some _ _).symm.trans H; with_reducible exact H2_) | with_reducible exact H | (rw [hy196]; exact H) | exact H
 have Ny196 := Aside0.mk hy196
 clear hy196
 have H' := Aside0.mk H
 clear H
 go_enter Try.func32, Try.ntmps32
 go_wp2_with (first | ((with_reducible refine gate_dst (N := 6) rfl ?_); refine Kd.R_lit k37 _ 37 ?hg (N := 6) ?hd (xs := ([] : List (S37))) (inner := []) (ok := fun _ => True) (okp := fun _ => True) ?hr ?hp (fun _ hk => hk) trivial (Below.refl _ _) (Nat.le_refl _) (by simp) ?_; (case hd => rfl); (case hg => rfl); (case hr => first | (go_simp; done) | (go_simp; rfl)); (case hp => exact (Reps.none _ _)); intro v197 w2 ho3 hb hg_ hnew_; clear hg_ hnew_; (first | rw [← Ny196.out] at ho3 | (simp only [Int.reduceToNat] at ho3; rw [← Ny196.out] at ho3)); have n0_ := am (Kd.R_lower ho3 (below_size (sB HB.out))); have n1_ := am (below_step (sB HB.out) hb); clear HB; have HO198 := n0_; have HB := n1_; clear n0_ n1_; clear hb ho3))
 go_loopg [3, 4] k (fun kq v3 v4 w' => ∃ (x3_1 : List (S37)) (x4_1 : Int), v4 = .int .i64 x4_1 ∧ Aside0 (spec_SortRules.l0 kq l0 x3_1 x4_1 = some r) ∧ Aside0 (kq ≤ k) ∧ Aside0 (Kd.R k37 37 w' w.heap.size (fun _ => True) v3 x3_1) ∧ Aside0 (Below w.heap.size w w'))
 case atStart => exact ⟨(y196), (0), (by first | rfl | (simp; done) | (simp [*]; done)), H', ⟨Nat.le_refl _⟩, ⟨by (with_reducible repeat (first | apply Kd.R_alloc | apply Kd.R_drewN | apply Kd.R_drew)); exact HO198.out⟩, ⟨sB HB.out⟩⟩
 case round =>
  clear H'
  try clear p2
  try clear c3
  obtain ⟨x3_1, x4_1, rfl, HA, HK1, HO_3, HB⟩ := hrel
  cases gk with
  | zero => exact absurd HA.out (by simp [spec_SortRules.l0])
  | succ k1 =>
   have H := HA.out
   clear HA
   simp only [spec_SortRules.l0] at H
   by_cases c4 : x4_1 < (l0.length : Int)
   ·rw [if_pos c4] at H
    have c4b0 : decide (x4_1 < (l0.length : Int)) = true := decide_eq_true c4
    clear c4
    by_cases c5 : 0 ≤ x4_1
    ·rw [if_pos c5] at H
     have c5b0 : decide (0 ≤ x4_1) = true := decide_eq_true c5
     clear c5
     replace H := Option.bind_eq_some_iff.mp H
     obtain ⟨t200, A60, H⟩ := H
     replace H : (if t200 = true then (spec_SortRules.l1 k1 l0 x3_1 x4_1 (x3_1.length : Int)) else (spec_SortRules.l0 k1 l0 x3_1 (wrap64 (x4_1 + 1)))) = some r := H
     have A6 := Aside0.mk A60
     clear A60
     by_cases c7 : t200 = true
     ·subst c7
      have H1 : (spec_SortRules.l1 k1 l0 x3_1 x4_1 (x3_1.length : Int)) = some r := by rw [if_pos rfl] at H; exact H
      clear H
      have H := H1
      clear H1
      have H' := Aside0.mk H
      clear H
      have p199 : 0 ≤ (x4_1 : Int) := of_decide_eq_true (by first | (with_reducible assumption) | assumption)
      have q199 : x4_1 < (l0.length : Int) := of_decide_eq_true (by first | (with_reducible assumption) | assumption)
      obtain ⟨ad199, e199, hx199_0, hx199_1, hx199_2, hx199_3, hx199_4, hx199_5, hx199_6, hx199_7⟩ := at_T37 HR0.out x4_1 p199 q199
      cases e199
      replace hx199_0 := hc_ HB hx199_0
      replace hx199_1 := hc_ HB hx199_1
      replace hx199_2 := hc_ HB hx199_2
      replace hx199_3 := hc_ HB hx199_3
      replace hx199_4 := hc_ HB hx199_4
      replace hx199_5 := hc_ HB hx199_5
      replace hx199_6 := hc_ HB hx199_6
      replace hx199_7 := hc_ HB hx199_7
      replace p199 := eq_true p199
      replace q199 := eq_true q199
      go_wp2_with (first | ((with_reducible refine gate_callee (f := 51) rfl ?_); refine goesL_ (some 17) rfl rfl Try.func51 (by kernel_rfl) rfl #[.agg #[.int .i64 ((rd_T37 l0 x4_1).f0), .int .i64 ((rd_T37 l0 x4_1).f1), .int .i64 ((rd_T37 l0 x4_1).f2.f0), .int .i64 ((rd_T37 l0 x4_1).f2.f1), .int .i64 ((rd_T37 l0 x4_1).f3), .int .i64 ((rd_T37 l0 x4_1).f4), .int .i64 ((rd_T37 l0 x4_1).f5.f0), .int .i64 ((rd_T37 l0 x4_1).f5.f1)]] rfl (by (try simp only [List.map_toArray, List.map_cons, List.map_nil]); first | done | rfl | (simp only [List.length_drop, List.length_take]; rfl)) ?_; (with_reducible refine (spec_IsRule.calls ((rd_T37 l0 x4_1).f0) ((rd_T37 l0 x4_1).f1) ((rd_T37 l0 x4_1).f2.f0) ((rd_T37 l0 x4_1).f2.f1) ((rd_T37 l0 x4_1).f3) ((rd_T37 l0 x4_1).f4) ((rd_T37 l0 x4_1).f5.f0) ((rd_T37 l0 x4_1).f5.f1) true _ A6.out).mono ?_); rintro e w8 ⟨rfl, hb⟩; refine ⟨_, rfl, ?_⟩; replace HO_3 := am (Kd.R_below (rB HO_3.out) hb); replace HB := am (below_step (sB HB.out) hb); (try clear hb); (try clear hb2); (try clear hk); (try clear hi); obtain ⟨Ao9, co9, eo9⟩ := Kd.R_slice HO_3.out; subst eo9))
      go_loopg [5] k1 (fun kq v5 w' => ∃ (x5_2 : Int), v5 = .int .i64 x5_2 ∧ Aside0 (spec_SortRules.l1 kq l0 x3_1 x4_1 x5_2 = some r) ∧ Aside0 (kq ≤ k1) ∧ Aside0 (Kd.R k37 37 w' w.heap.size (fun _ => True) (.slice Ao9 x3_1.length co9) x3_1) ∧ Aside0 (Below w.heap.size w w'))
      case atStart => exact ⟨((x3_1.length : Int)), (by first | rfl | (simp; done) | (simp [*]; done)), H', ⟨Nat.le_refl _⟩, ⟨by (with_reducible repeat (first | apply Kd.R_alloc | apply Kd.R_drewN | apply Kd.R_drew)); exact HO_3.out⟩, ⟨sB HB.out⟩⟩
      case round =>
       clear H'
       try clear p1
       try clear q1
       try clear hx1
       try clear p2
       try clear c3
       try clear c4
       try clear c4b0
       try clear c5
       try clear c5b0
       try clear p6
       try clear c7
       try clear hx199_0
       try clear hx199_1
       try clear hx199_2
       try clear hx199_3
       try clear hx199_4
       try clear hx199_5
       try clear hx199_6
       try clear hx199_7
       try clear p199
       try clear p2
       try clear q199
       obtain ⟨x5_2, rfl, HA, HK2, HO_3, HB⟩ := hrel
       cases gk with
       | zero => exact absurd HA.out (by simp [spec_SortRules.l1])
       | succ k2 =>
        have H := HA.out
        clear HA
        simp only [spec_SortRules.l1] at H
        by_cases c10 : x5_2 > 0
        ·rw [if_pos c10] at H
         have c10b0 : decide (0 < x5_2) = true := decide_eq_true c10
         clear c10
         by_cases c11 : 0 ≤ x4_1
         ·rw [if_pos c11] at H
          have c11b0 : decide (0 ≤ x4_1) = true := decide_eq_true c11
          clear c11
          by_cases c12 : x4_1 < (l0.length : Int)
          ·rw [if_pos c12] at H
           have c12b0 : decide (x4_1 < (l0.length : Int)) = true := decide_eq_true c12
           clear c12
           obtain ⟨ji13, hji13⟩ : ∃ j_ : Int, (wrap64 (x5_2 - 1)) = j_ := ⟨_, rfl⟩
           replace H : (if 0 ≤ (ji13) then (if (ji13) < (x3_1.length : Int) then ((spec_IsBefore.f ((rd_T37 l0 x4_1).f0) ((rd_T37 l0 x4_1).f1) ((rd_T37 l0 x4_1).f2.f0) ((rd_T37 l0 x4_1).f2.f1) ((rd_T37 l0 x4_1).f3) ((rd_T37 l0 x4_1).f4) ((rd_T37 l0 x4_1).f5.f0) ((rd_T37 l0 x4_1).f5.f1) ((rd_T37 x3_1 (ji13)).f0) ((rd_T37 x3_1 (ji13)).f1) ((rd_T37 x3_1 (ji13)).f2.f0) ((rd_T37 x3_1 (ji13)).f2.f1) ((rd_T37 x3_1 (ji13)).f3) ((rd_T37 x3_1 (ji13)).f4) ((rd_T37 x3_1 (ji13)).f5.f0) ((rd_T37 x3_1 (ji13)).f5.f1)).bind fun t203 => (if t203 = true then (spec_SortRules.l1 k2 l0 x3_1 x4_1 ji13) else ((some (([] : List (S37)) : List (S37))).bind fun y204 => (if 0 ≤ x5_2 then (if x5_2 ≤ (x3_1.length : Int) then ((some (x3_1.take (x5_2 : Int).toNat : List (S37))).bind fun y207 => (if y204.length + y207.length < 2199023255552 then ((some (y204 ++ y207 : List (S37))).bind fun y211 => ((some (([(⟨(rd_T37 l0 x4_1).f0, (rd_T37 l0 x4_1).f1, (⟨(rd_T37 l0 x4_1).f2.f0, (rd_T37 l0 x4_1).f2.f1⟩ : S35), (rd_T37 l0 x4_1).f3, (rd_T37 l0 x4_1).f4, (⟨(rd_T37 l0 x4_1).f5.f0, (rd_T37 l0 x4_1).f5.f1⟩ : S26)⟩ : S37)] : List (S37)) : List (S37))).bind fun y215 => (if y211.length + y215.length < 2199023255552 then ((some (y211 ++ y215 : List (S37))).bind fun y218 => ((some (x3_1.drop (x5_2 : Int).toNat : List (S37))).bind fun y221 => (if y218.length + y221.length < 2199023255552 then (spec_SortRules.l0 k2 l0 (y218 ++ y221) (wrap64 (x4_1 + 1))) else (none)))) else (none)))) else (none))) else (none)) else (none))))) else (none)) else (none)) = some r := by first | (rw [hji13] at H; exact H) | (simp only [hji13] at H ⊢; exact H)
           have hji13w : (IntKind.i64.wrap (x5_2 - 1)) = ji13 := (i64_w _).trans hji13
           by_cases c14 : 0 ≤ (ji13)
           ·rw [if_pos c14] at H
            have c14b0 : decide (0 ≤ (ji13)) = true := decide_eq_true c14
            clear c14
            by_cases c15 : (ji13) < (x3_1.length : Int)
            ·rw [if_pos c15] at H
             have c15b0 : decide ((ji13) < (x3_1.length : Int)) = true := decide_eq_true c15
             clear c15
             replace H := Option.bind_eq_some_iff.mp H
             obtain ⟨t203, A160, H⟩ := H
             replace H : (if t203 = true then (spec_SortRules.l1 k2 l0 x3_1 x4_1 ji13) else ((some (([] : List (S37)) : List (S37))).bind fun y204 => (if 0 ≤ x5_2 then (if x5_2 ≤ (x3_1.length : Int) then ((some (x3_1.take (x5_2 : Int).toNat : List (S37))).bind fun y207 => (if y204.length + y207.length < 2199023255552 then ((some (y204 ++ y207 : List (S37))).bind fun y211 => ((some (([(⟨(rd_T37 l0 x4_1).f0, (rd_T37 l0 x4_1).f1, (⟨(rd_T37 l0 x4_1).f2.f0, (rd_T37 l0 x4_1).f2.f1⟩ : S35), (rd_T37 l0 x4_1).f3, (rd_T37 l0 x4_1).f4, (⟨(rd_T37 l0 x4_1).f5.f0, (rd_T37 l0 x4_1).f5.f1⟩ : S26)⟩ : S37)] : List (S37)) : List (S37))).bind fun y215 => (if y211.length + y215.length < 2199023255552 then ((some (y211 ++ y215 : List (S37))).bind fun y218 => ((some (x3_1.drop (x5_2 : Int).toNat : List (S37))).bind fun y221 => (if y218.length + y221.length < 2199023255552 then (spec_SortRules.l0 k2 l0 (y218 ++ y221) (wrap64 (x4_1 + 1))) else (none)))) else (none)))) else (none))) else (none)) else (none)))) = some r := H
             have A16 := Aside0.mk A160
             clear A160
             by_cases c17 : t203 = true
             ·subst c17
              have H1 : (spec_SortRules.l1 k2 l0 x3_1 x4_1 ji13) = some r := by rw [if_pos rfl] at H; exact H
              clear H
              have H := H1
              clear H1
              have H' := Aside0.mk H
              clear H
              try go_wp2
              replace HO_3 := am (Kd.R_drew HO_3.out)
              replace HB := am (below_drew1 HB.out)
              have p201 : 0 ≤ (x4_1 : Int) := of_decide_eq_true (by first | (with_reducible assumption) | assumption)
              have q201 : x4_1 < (l0.length : Int) := of_decide_eq_true (by first | (with_reducible assumption) | assumption)
              obtain ⟨ad201, e201, hx201_0, hx201_1, hx201_2, hx201_3, hx201_4, hx201_5, hx201_6, hx201_7⟩ := at_T37 HR0.out x4_1 p201 q201
              have hw201_7 := hx201_7
              have hw201_6 := hx201_6
              have hw201_5 := hx201_5
              have hw201_4 := hx201_4
              have hw201_3 := hx201_3
              have hw201_2 := hx201_2
              have hw201_1 := hx201_1
              have hw201_0 := hx201_0
              obtain rfl : ad199 = ad201 := (by injection e201)
              replace hx201_0 := hc_ HB hx201_0
              replace hx201_1 := hc_ HB hx201_1
              replace hx201_2 := hc_ HB hx201_2
              replace hx201_3 := hc_ HB hx201_3
              replace hx201_4 := hc_ HB hx201_4
              replace hx201_5 := hc_ HB hx201_5
              replace hx201_6 := hc_ HB hx201_6
              replace hx201_7 := hc_ HB hx201_7
              replace p201 := eq_true p201
              replace q201 := eq_true q201
              have p202 : 0 ≤ ((ji13) : Int) := of_decide_eq_true (by first | (with_reducible assumption) | assumption)
              have q202 : (ji13) < (x3_1.length : Int) := of_decide_eq_true (by first | (with_reducible assumption) | assumption)
              obtain ⟨ad202, e202, hx202_0, hx202_1, hx202_2, hx202_3, hx202_4, hx202_5, hx202_6, hx202_7⟩ := at_T37 (Kd.R_reads' HO_3.out).2.2 (ji13) p202 q202
              cases e202
              replace p202 := eq_true p202
              replace q202 := eq_true q202
              refine start_ (n := 14) (S := fun w' => w'.cell? (ad199.add ((x4_1).toNat * 8)) = some (.int .i64 ((rd_T37 l0 x4_1).f0)) ∧ w'.cell? ⟨(ad199.add ((x4_1).toNat * 8)).block, (ad199.add ((x4_1).toNat * 8)).off + 1, none⟩ = some (.int .i64 ((rd_T37 l0 x4_1).f1)) ∧ w'.cell? ⟨(ad199.add ((x4_1).toNat * 8)).block, (ad199.add ((x4_1).toNat * 8)).off + 2, none⟩ = some (.int .i64 ((rd_T37 l0 x4_1).f2.f0)) ∧ w'.cell? ⟨(ad199.add ((x4_1).toNat * 8)).block, (ad199.add ((x4_1).toNat * 8)).off + 3, none⟩ = some (.int .i64 ((rd_T37 l0 x4_1).f2.f1)) ∧ w'.cell? ⟨(ad199.add ((x4_1).toNat * 8)).block, (ad199.add ((x4_1).toNat * 8)).off + 4, none⟩ = some (.int .i64 ((rd_T37 l0 x4_1).f3)) ∧ w'.cell? ⟨(ad199.add ((x4_1).toNat * 8)).block, (ad199.add ((x4_1).toNat * 8)).off + 5, none⟩ = some (.int .i64 ((rd_T37 l0 x4_1).f4)) ∧ w'.cell? ⟨(ad199.add ((x4_1).toNat * 8)).block, (ad199.add ((x4_1).toNat * 8)).off + 6, none⟩ = some (.int .i64 ((rd_T37 l0 x4_1).f5.f0)) ∧ w'.cell? ⟨(ad199.add ((x4_1).toNat * 8)).block, (ad199.add ((x4_1).toNat * 8)).off + 7, none⟩ = some (.int .i64 ((rd_T37 l0 x4_1).f5.f1)) ∧ w'.cell? (ad202.add (((ji13)).toNat * 8)) = some (.int .i64 ((rd_T37 x3_1 (ji13)).f0)) ∧ w'.cell? ⟨(ad202.add (((ji13)).toNat * 8)).block, (ad202.add (((ji13)).toNat * 8)).off + 1, none⟩ = some (.int .i64 ((rd_T37 x3_1 (ji13)).f1)) ∧ w'.cell? ⟨(ad202.add (((ji13)).toNat * 8)).block, (ad202.add (((ji13)).toNat * 8)).off + 2, none⟩ = some (.int .i64 ((rd_T37 x3_1 (ji13)).f2.f0)) ∧ w'.cell? ⟨(ad202.add (((ji13)).toNat * 8)).block, (ad202.add (((ji13)).toNat * 8)).off + 3, none⟩ = some (.int .i64 ((rd_T37 x3_1 (ji13)).f2.f1)) ∧ w'.cell? ⟨(ad202.add (((ji13)).toNat * 8)).block, (ad202.add (((ji13)).toNat * 8)).off + 4, none⟩ = some (.int .i64 ((rd_T37 x3_1 (ji13)).f3)) ∧ w'.cell? ⟨(ad202.add (((ji13)).toNat * 8)).block, (ad202.add (((ji13)).toNat * 8)).off + 5, none⟩ = some (.int .i64 ((rd_T37 x3_1 (ji13)).f4)) ∧ w'.cell? ⟨(ad202.add (((ji13)).toNat * 8)).block, (ad202.add (((ji13)).toNat * 8)).off + 6, none⟩ = some (.int .i64 ((rd_T37 x3_1 (ji13)).f5.f0)) ∧ w'.cell? ⟨(ad202.add (((ji13)).toNat * 8)).block, (ad202.add (((ji13)).toNat * 8)).off + 7, none⟩ = some (.int .i64 ((rd_T37 x3_1 (ji13)).f5.f1))) (ds := []) #[z,z,z,z,z,z,z,z,z,z,z,z,z,z] (by kernel_rfl) rfl rfl ⟨(hc_ HB hw201_0), (hc_ HB hw201_1), (hc_ HB hw201_2), (hc_ HB hw201_3), (hc_ HB hw201_4), (hc_ HB hw201_5), (hc_ HB hw201_6), (hc_ HB hw201_7), hx202_0, hx202_1, hx202_2, hx202_3, hx202_4, hx202_5, hx202_6, hx202_7⟩ (fun hHeld => ?_); refine with_tabW spec_SortRules.tab7 spec_SortRules.bits7 (fun HT_ HW_ => ?_)
              generalize wr.drew = w18 at HO_3 HB hx201_0 hx201_1 hx201_2 hx201_3 hx201_4 hx201_5 hx201_6 hx201_7 hx202_0 hx202_1 hx202_2 hx202_3 hx202_4 hx202_5 hx202_6 hx202_7 hHeld ⊢
              refine pure_ (i := 0) (N := some 21) (v := ?_) (a' := ?_) #[o,z,z,z,z,z,z,z,z,z,z,z,z,z] rfl rfl (any_of HT_.out (by kernel_rfl)) (fun _ _ _ h => h) (Or.inl ⟨by rfl, ?_⟩) ?_ ?_
              rotate_left
              ·intro w'
               go_simp
               with_reducible rfl
              rotate_left
              ·simp only [Act.put, qa, qb, qc, i64_w, i32_w]
               rfl
              refine pure_ (i := 1) (N := some 22) (v := ?_) (a' := ?_) #[o,o,z,z,z,z,z,z,z,z,z,z,z,z] rfl rfl (any_of HT_.out (by kernel_rfl)) (fun _ _ _ h => h) (Or.inl ⟨by rfl, ?_⟩) ?_ ?_
              rotate_left
              ·intro w'
               go_simp
               with_reducible rfl
              rotate_left
              ·simp only [Act.put, qa, qb, qc, i64_w, i32_w]
               rfl
              refine pure_ (i := 2) (N := some 23) (v := ?_) (a' := ?_) #[o,o,o,z,z,z,z,z,z,z,z,z,z,z] rfl rfl (any_of HT_.out (by kernel_rfl)) (fun _ _ _ h => h) (Or.inl ⟨by rfl, ?_⟩) ?_ ?_
              rotate_left
              ·intro w'
               go_simp
               with_reducible rfl
              rotate_left
              ·simp only [Act.put, qa, qb, qc, i64_w, i32_w]
               rfl
              refine pure_ (i := 3) (N := some 24) (v := ?_) (a' := ?_) #[o,o,o,o,z,z,z,z,z,z,z,z,z,z] rfl rfl (any_of HT_.out (by kernel_rfl)) (fun _ _ _ h => h) (Or.inl ⟨by rfl, ?_⟩) ?_ ?_
              rotate_left
              ·intro w'
               go_simp
               with_reducible rfl
              rotate_left
              ·simp only [Act.put, qa, qb, qc, i64_w, i32_w]
               rfl
              refine pure_ (i := 4) (N := some 25) (v := ?_) (a' := ?_) #[o,o,o,o,o,z,z,z,z,z,z,z,z,z] rfl rfl (any_of HT_.out (by kernel_rfl)) (fun _ _ _ h => h) (Or.inl ⟨by rfl, ?_⟩) ?_ ?_
              rotate_left
              ·intro w'
               go_simp
               with_reducible rfl
              rotate_left
              ·simp only [Act.put, qa, qb, qc, i64_w, i32_w]
               rfl
              refine pure_ (i := 5) (N := some 26) (v := ?_) (a' := ?_) #[o,o,o,o,o,o,z,z,z,z,z,z,z,z] rfl rfl (any_of HT_.out (by kernel_rfl)) (fun _ _ _ h => h) (Or.inl ⟨by rfl, ?_⟩) ?_ ?_
              rotate_left
              ·intro w'
               go_simp
               with_reducible rfl
              rotate_left
              ·simp only [Act.put, qa, qb, qc, i64_w, i32_w]
               rfl
              refine pure_ (i := 7) (N := some 28) (v := ?_) (a' := ?_) #[o,o,o,o,o,o,z,o,z,z,z,z,z,z] rfl rfl (any_of HT_.out (by kernel_rfl)) (fun _ _ _ h => h) (Or.inl ⟨by rfl, ?_⟩) ?_ ?_
              rotate_left
              ·intro w'
               go_simp
               with_reducible rfl
              rotate_left
              ·simp only [Act.put, qa, qb, qc, i64_w, i32_w]
               rfl
              refine pure_ (i := 8) (N := some 29) (v := ?_) (a' := ?_) #[o,o,o,o,o,o,z,o,o,z,z,z,z,z] rfl rfl (any_of HT_.out (by kernel_rfl)) (fun _ _ _ h => h) (Or.inl ⟨by rfl, ?_⟩) ?_ ?_
              rotate_left
              ·intro w'
               go_simp
               with_reducible rfl
              rotate_left
              ·simp only [Act.put, qa, qb, qc, i64_w, i32_w]
               rfl
              refine pure_ (i := 9) (N := some 30) (v := ?_) (a' := ?_) #[o,o,o,o,o,o,z,o,o,o,z,z,z,z] rfl rfl (any_of HT_.out (by kernel_rfl)) (fun _ _ _ h => h) (Or.inl ⟨by rfl, ?_⟩) ?_ ?_
              rotate_left
              ·intro w'
               go_simp
               with_reducible rfl
              rotate_left
              ·simp only [Act.put, qa, qb, qc, i64_w, i32_w]
               rfl
              refine pure_ (i := 10) (N := some 31) (v := ?_) (a' := ?_) #[o,o,o,o,o,o,z,o,o,o,o,z,z,z] rfl rfl (any_of HT_.out (by kernel_rfl)) (fun _ _ _ h => h) (Or.inl ⟨by rfl, ?_⟩) ?_ ?_
              rotate_left
              ·intro w'
               go_simp
               with_reducible rfl
              rotate_left
              ·simp only [Act.put, qa, qb, qc, i64_w, i32_w]
               rfl
              refine take_ (i := 6) (N := some 27) (v := ?_) (a' := ?_) #[o,o,o,o,o,o,o,o,o,o,o,z,z,z] rfl rfl (take_ofW HT_.out HW_.out (by kernel_rfl)) (fun _ _ _ h => h) (Or.inl ⟨by rfl, ?_⟩) hHeld ?_ ?_
              rotate_left
              ·rintro w' ⟨s0, s1, s2, s3, s4, s5, s6, s7, s8, s9, s10, s11, s12, s13, s14, s15⟩
               go_simp
               with_reducible rfl
              rotate_left
              ·simp only [Act.put, qa, qb, qc, i64_w, i32_w]
               rfl
              refine take_ (i := 11) (N := some 32) (v := ?_) (a' := ?_) #[o,o,o,o,o,o,o,o,o,o,o,o,z,z] rfl rfl (take_ofW HT_.out HW_.out (by kernel_rfl)) (fun _ _ _ h => h) (Or.inl ⟨by rfl, ?_⟩) hHeld ?_ ?_
              rotate_left
              ·rintro w' ⟨s0, s1, s2, s3, s4, s5, s6, s7, s8, s9, s10, s11, s12, s13, s14, s15⟩
               go_simp
               with_reducible rfl
              rotate_left
              ·simp only [Act.put, qa, qb, qc, i64_w, i32_w]
               rfl
              refine one_ (i := 12) (N := some 33) #[o,o,o,o,o,o,o,o,o,o,o,o,o,z] rfl rfl (one_of HT_.out (by kernel_rfl)) (by decide) (fun K hK => ?_)
              refine goes_ Try.func52 (by kernel_rfl) rfl #[.agg #[.int .i64 ((rd_T37 l0 x4_1).f0), .int .i64 ((rd_T37 l0 x4_1).f1), .int .i64 ((rd_T37 l0 x4_1).f2.f0), .int .i64 ((rd_T37 l0 x4_1).f2.f1), .int .i64 ((rd_T37 l0 x4_1).f3), .int .i64 ((rd_T37 l0 x4_1).f4), .int .i64 ((rd_T37 l0 x4_1).f5.f0), .int .i64 ((rd_T37 l0 x4_1).f5.f1)], .agg #[.int .i64 ((rd_T37 x3_1 (ji13)).f0), .int .i64 ((rd_T37 x3_1 (ji13)).f1), .int .i64 ((rd_T37 x3_1 (ji13)).f2.f0), .int .i64 ((rd_T37 x3_1 (ji13)).f2.f1), .int .i64 ((rd_T37 x3_1 (ji13)).f3), .int .i64 ((rd_T37 x3_1 (ji13)).f4), .int .i64 ((rd_T37 x3_1 (ji13)).f5.f0), .int .i64 ((rd_T37 x3_1 (ji13)).f5.f1)]] (by rfl) rfl rfl (by (try simp only [List.map_toArray, List.map_cons, List.map_nil]); first | done | (simp only [hji13]; rfl) | rfl | (simp only [List.length_drop, List.length_take]; rfl)) ?_
              with_reducible refine (spec_IsBefore.calls ((rd_T37 l0 x4_1).f0) ((rd_T37 l0 x4_1).f1) ((rd_T37 l0 x4_1).f2.f0) ((rd_T37 l0 x4_1).f2.f1) ((rd_T37 l0 x4_1).f3) ((rd_T37 l0 x4_1).f4) ((rd_T37 l0 x4_1).f5.f0) ((rd_T37 l0 x4_1).f5.f1) ((rd_T37 x3_1 (ji13)).f0) ((rd_T37 x3_1 (ji13)).f1) ((rd_T37 x3_1 (ji13)).f2.f0) ((rd_T37 x3_1 (ji13)).f2.f1) ((rd_T37 x3_1 (ji13)).f3) ((rd_T37 x3_1 (ji13)).f4) ((rd_T37 x3_1 (ji13)).f5.f0) ((rd_T37 x3_1 (ji13)).f5.f1) true _ A16.out).mono ?_
              rintro e w19 ⟨rfl, hb⟩
              have HS8_ := (hb.cell (World.block_lt_of_cell? _ _ (hHeld.2.2.2.2.2.2.2.2.1))).trans (hHeld.2.2.2.2.2.2.2.2.1)
              have HS9_ := (hb.cell (World.block_lt_of_cell? _ _ (hHeld.2.2.2.2.2.2.2.2.2.1))).trans (hHeld.2.2.2.2.2.2.2.2.2.1)
              have HS10_ := (hb.cell (World.block_lt_of_cell? _ _ (hHeld.2.2.2.2.2.2.2.2.2.2.1))).trans (hHeld.2.2.2.2.2.2.2.2.2.2.1)
              have HS11_ := (hb.cell (World.block_lt_of_cell? _ _ (hHeld.2.2.2.2.2.2.2.2.2.2.2.1))).trans (hHeld.2.2.2.2.2.2.2.2.2.2.2.1)
              have HS12_ := (hb.cell (World.block_lt_of_cell? _ _ (hHeld.2.2.2.2.2.2.2.2.2.2.2.2.1))).trans (hHeld.2.2.2.2.2.2.2.2.2.2.2.2.1)
              have HS13_ := (hb.cell (World.block_lt_of_cell? _ _ (hHeld.2.2.2.2.2.2.2.2.2.2.2.2.2.1))).trans (hHeld.2.2.2.2.2.2.2.2.2.2.2.2.2.1)
              have HS14_ := (hb.cell (World.block_lt_of_cell? _ _ (hHeld.2.2.2.2.2.2.2.2.2.2.2.2.2.2.1))).trans (hHeld.2.2.2.2.2.2.2.2.2.2.2.2.2.2.1)
              have HS15_ := (hb.cell (World.block_lt_of_cell? _ _ (hHeld.2.2.2.2.2.2.2.2.2.2.2.2.2.2.2))).trans (hHeld.2.2.2.2.2.2.2.2.2.2.2.2.2.2.2)
              refine ⟨_, rfl, ?_⟩
              replace HO_3 := am (Kd.R_below (rB HO_3.out) hb)
              replace HB := am (below_step (sB HB.out) hb)
              (try clear hb)
              (try clear hb2)
              (try clear hk)
              (try clear hi)
              refine hK.out _ _ ⟨(hc_ HB hw201_0), (hc_ HB hw201_1), (hc_ HB hw201_2), (hc_ HB hw201_3), (hc_ HB hw201_4), (hc_ HB hw201_5), (hc_ HB hw201_6), (hc_ HB hw201_7), HS8_, HS9_, HS10_, HS11_, HS12_, HS13_, HS14_, HS15_⟩ (fun hHeld => ?_)
              clear hK K
              refine norm_ (a' := ?_) ?_ ?_
              rotate_left
              ·show Act.put _ (some 33) _ = _
               simp only [Act.put, qa, qb, qc, i64_w, i32_w]
               rfl
              refine pure_ (i := 13) (N := some 34) (v := ?_) (a' := ?_) #[o,o,o,o,o,o,o,o,o,o,o,o,o,o] rfl rfl (any_of HT_.out (by kernel_rfl)) (fun _ _ _ h => h) (Or.inl ⟨by rfl, ?_⟩) ?_ ?_
              rotate_left
              ·intro w'
               go_simp
               with_reducible rfl
              rotate_left
              ·simp only [Act.put, qa, qb, qc, i64_w, i32_w]
               rfl
              refine done_ (done_of HT_.out (by kernel_rfl)) ?_
              try go_wp2
              go_roundg k2
              case measure => have := HK1.out; have := HK2.out; omega
              case rel => exact ⟨(ji13), (by first | rfl | (simp; done) | (simp only [← hji13] <;> (first | rfl | simp)) | (simp [*]; done)), H', ⟨by have := HK1.out; have := HK2.out; omega⟩, ⟨by (with_reducible repeat (first | apply Kd.R_alloc | apply Kd.R_drewN | apply Kd.R_drew)); exact HO_3.out⟩, ⟨sB HB.out⟩⟩
             ·replace c17 := Bool.eq_false_iff.mpr c17
              subst c17
              have H1 : ((some (([] : List (S37)) : List (S37))).bind fun y204 => (if 0 ≤ x5_2 then (if x5_2 ≤ (x3_1.length : Int) then ((some (x3_1.take (x5_2 : Int).toNat : List (S37))).bind fun y207 => (if y204.length + y207.length < 2199023255552 then ((some (y204 ++ y207 : List (S37))).bind fun y211 => ((some (([(⟨(rd_T37 l0 x4_1).f0, (rd_T37 l0 x4_1).f1, (⟨(rd_T37 l0 x4_1).f2.f0, (rd_T37 l0 x4_1).f2.f1⟩ : S35), (rd_T37 l0 x4_1).f3, (rd_T37 l0 x4_1).f4, (⟨(rd_T37 l0 x4_1).f5.f0, (rd_T37 l0 x4_1).f5.f1⟩ : S26)⟩ : S37)] : List (S37)) : List (S37))).bind fun y215 => (if y211.length + y215.length < 2199023255552 then ((some (y211 ++ y215 : List (S37))).bind fun y218 => ((some (x3_1.drop (x5_2 : Int).toNat : List (S37))).bind fun y221 => (if y218.length + y221.length < 2199023255552 then (spec_SortRules.l0 k2 l0 (y218 ++ y221) (wrap64 (x4_1 + 1))) else (none)))) else (none)))) else (none))) else (none)) else (none))) = some r := by rw [if_neg (show ¬ (false = true) by decide)] at H; exact H
              clear H
              have H := H1
              clear H1
              obtain ⟨y204, hy204⟩ : ∃ y_ : List (S37), y_ = (([] : List (S37))) := ⟨_, rfl⟩
              replace H : (if 0 ≤ x5_2 then (if x5_2 ≤ (x3_1.length : Int) then ((some (x3_1.take (x5_2 : Int).toNat : List (S37))).bind fun y207 => (if y204.length + y207.length < 2199023255552 then ((some (y204 ++ y207 : List (S37))).bind fun y211 => ((some (([(⟨(rd_T37 l0 x4_1).f0, (rd_T37 l0 x4_1).f1, (⟨(rd_T37 l0 x4_1).f2.f0, (rd_T37 l0 x4_1).f2.f1⟩ : S35), (rd_T37 l0 x4_1).f3, (rd_T37 l0 x4_1).f4, (⟨(rd_T37 l0 x4_1).f5.f0, (rd_T37 l0 x4_1).f5.f1⟩ : S26)⟩ : S37)] : List (S37)) : List (S37))).bind fun y215 => (if y211.length + y215.length < 2199023255552 then ((some (y211 ++ y215 : List (S37))).bind fun y218 => ((some (x3_1.drop (x5_2 : Int).toNat : List (S37))).bind fun y221 => (if y218.length + y221.length < 2199023255552 then (spec_SortRules.l0 k2 l0 (y218 ++ y221) (wrap64 (x4_1 + 1))) else (none)))) else (none)))) else (none))) else (none)) else (none)) = some r := by first | (rw [hy204]; with_reducible exact H) | (have H2_ := (Option.bind_some _ _).symm.trans H; rw [hy204]; with_reducible exact H2_) | (have H2_ := (Option.bind_some _ _).symm.trans H; with_reducible exact H2_) | with_reducible exact H | (rw [hy204]; exact H) | exact H
              have Ny204 := Aside0.mk hy204
              clear hy204
              by_cases c20 : 0 ≤ x5_2
              ·rw [if_pos c20] at H
               have c20b0 := eq_true c20
               have c20b1 : decide (0 ≤ x5_2) = true := decide_eq_true c20
               clear c20
               by_cases c21 : x5_2 ≤ (x3_1.length : Int)
               ·rw [if_pos c21] at H
                have c21b0 := eq_true c21
                have c21b1 : decide (x5_2 ≤ (x3_1.length : Int)) = true := decide_eq_true c21
                clear c21
                obtain ⟨y207, hy207⟩ : ∃ y_ : List (S37), y_ = (x3_1.take (x5_2 : Int).toNat) := ⟨_, rfl⟩
                replace H : (if y204.length + y207.length < 2199023255552 then ((some (y204 ++ y207 : List (S37))).bind fun y211 => ((some (([(⟨(rd_T37 l0 x4_1).f0, (rd_T37 l0 x4_1).f1, (⟨(rd_T37 l0 x4_1).f2.f0, (rd_T37 l0 x4_1).f2.f1⟩ : S35), (rd_T37 l0 x4_1).f3, (rd_T37 l0 x4_1).f4, (⟨(rd_T37 l0 x4_1).f5.f0, (rd_T37 l0 x4_1).f5.f1⟩ : S26)⟩ : S37)] : List (S37)) : List (S37))).bind fun y215 => (if y211.length + y215.length < 2199023255552 then ((some (y211 ++ y215 : List (S37))).bind fun y218 => ((some (x3_1.drop (x5_2 : Int).toNat : List (S37))).bind fun y221 => (if y218.length + y221.length < 2199023255552 then (spec_SortRules.l0 k2 l0 (y218 ++ y221) (wrap64 (x4_1 + 1))) else (none)))) else (none)))) else (none)) = some r := by first | (rw [hy207]; with_reducible exact H) | (have H2_ := (Option.bind_some _ _).symm.trans H; rw [hy207]; with_reducible exact H2_) | (have H2_ := (Option.bind_some _ _).symm.trans H; with_reducible exact H2_) | with_reducible exact H | (rw [hy207]; exact H) | exact H
                have Ny207 := Aside0.mk hy207
                clear hy207
                by_cases c22 : y204.length + y207.length < 2199023255552
                ·rw [if_pos c22] at H
                 have LMc22 := Aside0.mk c22
                 clear c22
                 obtain ⟨y211, hy211⟩ : ∃ y_ : List (S37), y_ = (y204 ++ y207) := ⟨_, rfl⟩
                 replace H : ((some (([(⟨(rd_T37 l0 x4_1).f0, (rd_T37 l0 x4_1).f1, (⟨(rd_T37 l0 x4_1).f2.f0, (rd_T37 l0 x4_1).f2.f1⟩ : S35), (rd_T37 l0 x4_1).f3, (rd_T37 l0 x4_1).f4, (⟨(rd_T37 l0 x4_1).f5.f0, (rd_T37 l0 x4_1).f5.f1⟩ : S26)⟩ : S37)] : List (S37)) : List (S37))).bind fun y215 => (if y211.length + y215.length < 2199023255552 then ((some (y211 ++ y215 : List (S37))).bind fun y218 => ((some (x3_1.drop (x5_2 : Int).toNat : List (S37))).bind fun y221 => (if y218.length + y221.length < 2199023255552 then (spec_SortRules.l0 k2 l0 (y218 ++ y221) (wrap64 (x4_1 + 1))) else (none)))) else (none))) = some r := by first | (rw [hy211]; with_reducible exact H) | (have H2_ := (Option.bind_some _ _).symm.trans H; rw [hy211]; with_reducible exact H2_) | (have H2_ := (Option.bind_some _ _).symm.trans H; with_reducible exact H2_) | with_reducible exact H | (rw [hy211]; exact H) | exact H
                 have Ny211 := Aside0.mk hy211
                 clear hy211
                 obtain ⟨y215, hy215⟩ : ∃ y_ : List (S37), y_ = (([(⟨(rd_T37 l0 x4_1).f0, (rd_T37 l0 x4_1).f1, (⟨(rd_T37 l0 x4_1).f2.f0, (rd_T37 l0 x4_1).f2.f1⟩ : S35), (rd_T37 l0 x4_1).f3, (rd_T37 l0 x4_1).f4, (⟨(rd_T37 l0 x4_1).f5.f0, (rd_T37 l0 x4_1).f5.f1⟩ : S26)⟩ : S37)] : List (S37))) := ⟨_, rfl⟩
                 replace H : (if y211.length + y215.length < 2199023255552 then ((some (y211 ++ y215 : List (S37))).bind fun y218 => ((some (x3_1.drop (x5_2 : Int).toNat : List (S37))).bind fun y221 => (if y218.length + y221.length < 2199023255552 then (spec_SortRules.l0 k2 l0 (y218 ++ y221) (wrap64 (x4_1 + 1))) else (none)))) else (none)) = some r := by first | (rw [hy215]; with_reducible exact H) | (have H2_ := (Option.bind_some _ _).symm.trans H; rw [hy215]; with_reducible exact H2_) | (have H2_ := (Option.bind_some _ _).symm.trans H; with_reducible exact H2_) | with_reducible exact H | (rw [hy215]; exact H) | exact H
                 have Ny215 := Aside0.mk hy215
                 clear hy215
                 by_cases c23 : y211.length + y215.length < 2199023255552
                 ·rw [if_pos c23] at H
                  have LMc23 := Aside0.mk c23
                  clear c23
                  obtain ⟨y218, hy218⟩ : ∃ y_ : List (S37), y_ = (y211 ++ y215) := ⟨_, rfl⟩
                  replace H : ((some (x3_1.drop (x5_2 : Int).toNat : List (S37))).bind fun y221 => (if y218.length + y221.length < 2199023255552 then (spec_SortRules.l0 k2 l0 (y218 ++ y221) (wrap64 (x4_1 + 1))) else (none))) = some r := by first | (rw [hy218]; with_reducible exact H) | (have H2_ := (Option.bind_some _ _).symm.trans H; rw [hy218]; with_reducible exact H2_) | (have H2_ := (Option.bind_some _ _).symm.trans H; with_reducible exact H2_) | with_reducible exact H | (rw [hy218]; exact H) | exact H
                  have Ny218 := Aside0.mk hy218
                  clear hy218
                  have c24b0 := eq_true (of_decide_eq_true (by first | (with_reducible assumption) | assumption) : 0 ≤ x5_2)
                  have c25b0 := eq_true (of_decide_eq_true (by first | (with_reducible assumption) | assumption) : x5_2 ≤ (x3_1.length : Int))
                  obtain ⟨y221, hy221⟩ : ∃ y_ : List (S37), y_ = (x3_1.drop (x5_2 : Int).toNat) := ⟨_, rfl⟩
                  replace H : (if y218.length + y221.length < 2199023255552 then (spec_SortRules.l0 k2 l0 (y218 ++ y221) (wrap64 (x4_1 + 1))) else (none)) = some r := by first | (rw [hy221]; with_reducible exact H) | (have H2_ := (Option.bind_some _ _).symm.trans H; rw [hy221]; with_reducible exact H2_) | (have H2_ := (Option.bind_some _ _).symm.trans H; with_reducible exact H2_) | with_reducible exact H | (rw [hy221]; exact H) | exact H
                  have Ny221 := Aside0.mk hy221
                  clear hy221
                  by_cases c26 : y218.length + y221.length < 2199023255552
                  ·rw [if_pos c26] at H
                   have LMc26 := Aside0.mk c26
                   clear c26
                   obtain ⟨y225, hy225⟩ : ∃ y_ : List (S37), y_ = (y218 ++ y221) := ⟨_, rfl⟩
                   replace H : (spec_SortRules.l0 k2 l0 y225 (wrap64 (x4_1 + 1))) = some r := by first | (rw [hy225]; with_reducible exact H) | (have H2_ := (Option.bind_some _ _).symm.trans H; rw [hy225]; with_reducible exact H2_) | (have H2_ := (Option.bind_some _ _).symm.trans H; with_reducible exact H2_) | with_reducible exact H | (rw [hy225]; exact H) | exact H
                   have Ny225 := Aside0.mk hy225
                   clear hy225
                   have H' := Aside0.mk H
                   clear H
                   try go_wp2
                   replace HO_3 := am (Kd.R_drew HO_3.out)
                   replace HB := am (below_drew1 HB.out)
                   have p201 : 0 ≤ (x4_1 : Int) := of_decide_eq_true (by first | (with_reducible assumption) | assumption)
                   have q201 : x4_1 < (l0.length : Int) := of_decide_eq_true (by first | (with_reducible assumption) | assumption)
                   obtain ⟨ad201, e201, hx201_0, hx201_1, hx201_2, hx201_3, hx201_4, hx201_5, hx201_6, hx201_7⟩ := at_T37 HR0.out x4_1 p201 q201
                   have hw201_7 := hx201_7
                   have hw201_6 := hx201_6
                   have hw201_5 := hx201_5
                   have hw201_4 := hx201_4
                   have hw201_3 := hx201_3
                   have hw201_2 := hx201_2
                   have hw201_1 := hx201_1
                   have hw201_0 := hx201_0
                   obtain rfl : ad199 = ad201 := (by injection e201)
                   replace hx201_0 := hc_ HB hx201_0
                   replace hx201_1 := hc_ HB hx201_1
                   replace hx201_2 := hc_ HB hx201_2
                   replace hx201_3 := hc_ HB hx201_3
                   replace hx201_4 := hc_ HB hx201_4
                   replace hx201_5 := hc_ HB hx201_5
                   replace hx201_6 := hc_ HB hx201_6
                   replace hx201_7 := hc_ HB hx201_7
                   replace p201 := eq_true p201
                   replace q201 := eq_true q201
                   have p202 : 0 ≤ ((ji13) : Int) := of_decide_eq_true (by first | (with_reducible assumption) | assumption)
                   have q202 : (ji13) < (x3_1.length : Int) := of_decide_eq_true (by first | (with_reducible assumption) | assumption)
                   obtain ⟨ad202, e202, hx202_0, hx202_1, hx202_2, hx202_3, hx202_4, hx202_5, hx202_6, hx202_7⟩ := at_T37 (Kd.R_reads' HO_3.out).2.2 (ji13) p202 q202
                   cases e202
                   replace p202 := eq_true p202
                   replace q202 := eq_true q202
                   refine start_ (n := 14) (S := fun w' => w'.cell? (ad199.add ((x4_1).toNat * 8)) = some (.int .i64 ((rd_T37 l0 x4_1).f0)) ∧ w'.cell? ⟨(ad199.add ((x4_1).toNat * 8)).block, (ad199.add ((x4_1).toNat * 8)).off + 1, none⟩ = some (.int .i64 ((rd_T37 l0 x4_1).f1)) ∧ w'.cell? ⟨(ad199.add ((x4_1).toNat * 8)).block, (ad199.add ((x4_1).toNat * 8)).off + 2, none⟩ = some (.int .i64 ((rd_T37 l0 x4_1).f2.f0)) ∧ w'.cell? ⟨(ad199.add ((x4_1).toNat * 8)).block, (ad199.add ((x4_1).toNat * 8)).off + 3, none⟩ = some (.int .i64 ((rd_T37 l0 x4_1).f2.f1)) ∧ w'.cell? ⟨(ad199.add ((x4_1).toNat * 8)).block, (ad199.add ((x4_1).toNat * 8)).off + 4, none⟩ = some (.int .i64 ((rd_T37 l0 x4_1).f3)) ∧ w'.cell? ⟨(ad199.add ((x4_1).toNat * 8)).block, (ad199.add ((x4_1).toNat * 8)).off + 5, none⟩ = some (.int .i64 ((rd_T37 l0 x4_1).f4)) ∧ w'.cell? ⟨(ad199.add ((x4_1).toNat * 8)).block, (ad199.add ((x4_1).toNat * 8)).off + 6, none⟩ = some (.int .i64 ((rd_T37 l0 x4_1).f5.f0)) ∧ w'.cell? ⟨(ad199.add ((x4_1).toNat * 8)).block, (ad199.add ((x4_1).toNat * 8)).off + 7, none⟩ = some (.int .i64 ((rd_T37 l0 x4_1).f5.f1)) ∧ w'.cell? (ad202.add (((ji13)).toNat * 8)) = some (.int .i64 ((rd_T37 x3_1 (ji13)).f0)) ∧ w'.cell? ⟨(ad202.add (((ji13)).toNat * 8)).block, (ad202.add (((ji13)).toNat * 8)).off + 1, none⟩ = some (.int .i64 ((rd_T37 x3_1 (ji13)).f1)) ∧ w'.cell? ⟨(ad202.add (((ji13)).toNat * 8)).block, (ad202.add (((ji13)).toNat * 8)).off + 2, none⟩ = some (.int .i64 ((rd_T37 x3_1 (ji13)).f2.f0)) ∧ w'.cell? ⟨(ad202.add (((ji13)).toNat * 8)).block, (ad202.add (((ji13)).toNat * 8)).off + 3, none⟩ = some (.int .i64 ((rd_T37 x3_1 (ji13)).f2.f1)) ∧ w'.cell? ⟨(ad202.add (((ji13)).toNat * 8)).block, (ad202.add (((ji13)).toNat * 8)).off + 4, none⟩ = some (.int .i64 ((rd_T37 x3_1 (ji13)).f3)) ∧ w'.cell? ⟨(ad202.add (((ji13)).toNat * 8)).block, (ad202.add (((ji13)).toNat * 8)).off + 5, none⟩ = some (.int .i64 ((rd_T37 x3_1 (ji13)).f4)) ∧ w'.cell? ⟨(ad202.add (((ji13)).toNat * 8)).block, (ad202.add (((ji13)).toNat * 8)).off + 6, none⟩ = some (.int .i64 ((rd_T37 x3_1 (ji13)).f5.f0)) ∧ w'.cell? ⟨(ad202.add (((ji13)).toNat * 8)).block, (ad202.add (((ji13)).toNat * 8)).off + 7, none⟩ = some (.int .i64 ((rd_T37 x3_1 (ji13)).f5.f1))) (ds := []) #[z,z,z,z,z,z,z,z,z,z,z,z,z,z] (by kernel_rfl) rfl rfl ⟨(hc_ HB hw201_0), (hc_ HB hw201_1), (hc_ HB hw201_2), (hc_ HB hw201_3), (hc_ HB hw201_4), (hc_ HB hw201_5), (hc_ HB hw201_6), (hc_ HB hw201_7), hx202_0, hx202_1, hx202_2, hx202_3, hx202_4, hx202_5, hx202_6, hx202_7⟩ (fun hHeld => ?_); refine with_tabW spec_SortRules.tab7 spec_SortRules.bits7 (fun HT_ HW_ => ?_)
                   generalize wr.drew = w27 at HO_3 HB hx201_0 hx201_1 hx201_2 hx201_3 hx201_4 hx201_5 hx201_6 hx201_7 hx202_0 hx202_1 hx202_2 hx202_3 hx202_4 hx202_5 hx202_6 hx202_7 hHeld ⊢
                   refine pure_ (i := 0) (N := some 21) (v := ?_) (a' := ?_) #[o,z,z,z,z,z,z,z,z,z,z,z,z,z] rfl rfl (any_of HT_.out (by kernel_rfl)) (fun _ _ _ h => h) (Or.inl ⟨by rfl, ?_⟩) ?_ ?_
                   rotate_left
                   ·intro w'
                    go_simp
                    with_reducible rfl
                   rotate_left
                   ·simp only [Act.put, qa, qb, qc, i64_w, i32_w]
                    rfl
                   refine pure_ (i := 1) (N := some 22) (v := ?_) (a' := ?_) #[o,o,z,z,z,z,z,z,z,z,z,z,z,z] rfl rfl (any_of HT_.out (by kernel_rfl)) (fun _ _ _ h => h) (Or.inl ⟨by rfl, ?_⟩) ?_ ?_
                   rotate_left
                   ·intro w'
                    go_simp
                    with_reducible rfl
                   rotate_left
                   ·simp only [Act.put, qa, qb, qc, i64_w, i32_w]
                    rfl
                   refine pure_ (i := 2) (N := some 23) (v := ?_) (a' := ?_) #[o,o,o,z,z,z,z,z,z,z,z,z,z,z] rfl rfl (any_of HT_.out (by kernel_rfl)) (fun _ _ _ h => h) (Or.inl ⟨by rfl, ?_⟩) ?_ ?_
                   rotate_left
                   ·intro w'
                    go_simp
                    with_reducible rfl
                   rotate_left
                   ·simp only [Act.put, qa, qb, qc, i64_w, i32_w]
                    rfl
                   refine pure_ (i := 3) (N := some 24) (v := ?_) (a' := ?_) #[o,o,o,o,z,z,z,z,z,z,z,z,z,z] rfl rfl (any_of HT_.out (by kernel_rfl)) (fun _ _ _ h => h) (Or.inl ⟨by rfl, ?_⟩) ?_ ?_
                   rotate_left
                   ·intro w'
                    go_simp
                    with_reducible rfl
                   rotate_left
                   ·simp only [Act.put, qa, qb, qc, i64_w, i32_w]
                    rfl
                   refine pure_ (i := 4) (N := some 25) (v := ?_) (a' := ?_) #[o,o,o,o,o,z,z,z,z,z,z,z,z,z] rfl rfl (any_of HT_.out (by kernel_rfl)) (fun _ _ _ h => h) (Or.inl ⟨by rfl, ?_⟩) ?_ ?_
                   rotate_left
                   ·intro w'
                    go_simp
                    with_reducible rfl
                   rotate_left
                   ·simp only [Act.put, qa, qb, qc, i64_w, i32_w]
                    rfl
                   refine pure_ (i := 5) (N := some 26) (v := ?_) (a' := ?_) #[o,o,o,o,o,o,z,z,z,z,z,z,z,z] rfl rfl (any_of HT_.out (by kernel_rfl)) (fun _ _ _ h => h) (Or.inl ⟨by rfl, ?_⟩) ?_ ?_
                   rotate_left
                   ·intro w'
                    go_simp
                    with_reducible rfl
                   rotate_left
                   ·simp only [Act.put, qa, qb, qc, i64_w, i32_w]
                    rfl
                   refine pure_ (i := 7) (N := some 28) (v := ?_) (a' := ?_) #[o,o,o,o,o,o,z,o,z,z,z,z,z,z] rfl rfl (any_of HT_.out (by kernel_rfl)) (fun _ _ _ h => h) (Or.inl ⟨by rfl, ?_⟩) ?_ ?_
                   rotate_left
                   ·intro w'
                    go_simp
                    with_reducible rfl
                   rotate_left
                   ·simp only [Act.put, qa, qb, qc, i64_w, i32_w]
                    rfl
                   refine pure_ (i := 8) (N := some 29) (v := ?_) (a' := ?_) #[o,o,o,o,o,o,z,o,o,z,z,z,z,z] rfl rfl (any_of HT_.out (by kernel_rfl)) (fun _ _ _ h => h) (Or.inl ⟨by rfl, ?_⟩) ?_ ?_
                   rotate_left
                   ·intro w'
                    go_simp
                    with_reducible rfl
                   rotate_left
                   ·simp only [Act.put, qa, qb, qc, i64_w, i32_w]
                    rfl
                   refine pure_ (i := 9) (N := some 30) (v := ?_) (a' := ?_) #[o,o,o,o,o,o,z,o,o,o,z,z,z,z] rfl rfl (any_of HT_.out (by kernel_rfl)) (fun _ _ _ h => h) (Or.inl ⟨by rfl, ?_⟩) ?_ ?_
                   rotate_left
                   ·intro w'
                    go_simp
                    with_reducible rfl
                   rotate_left
                   ·simp only [Act.put, qa, qb, qc, i64_w, i32_w]
                    rfl
                   refine pure_ (i := 10) (N := some 31) (v := ?_) (a' := ?_) #[o,o,o,o,o,o,z,o,o,o,o,z,z,z] rfl rfl (any_of HT_.out (by kernel_rfl)) (fun _ _ _ h => h) (Or.inl ⟨by rfl, ?_⟩) ?_ ?_
                   rotate_left
                   ·intro w'
                    go_simp
                    with_reducible rfl
                   rotate_left
                   ·simp only [Act.put, qa, qb, qc, i64_w, i32_w]
                    rfl
                   refine take_ (i := 6) (N := some 27) (v := ?_) (a' := ?_) #[o,o,o,o,o,o,o,o,o,o,o,z,z,z] rfl rfl (take_ofW HT_.out HW_.out (by kernel_rfl)) (fun _ _ _ h => h) (Or.inl ⟨by rfl, ?_⟩) hHeld ?_ ?_
                   rotate_left
                   ·rintro w' ⟨s0, s1, s2, s3, s4, s5, s6, s7, s8, s9, s10, s11, s12, s13, s14, s15⟩
                    go_simp
                    with_reducible rfl
                   rotate_left
                   ·simp only [Act.put, qa, qb, qc, i64_w, i32_w]
                    rfl
                   refine take_ (i := 11) (N := some 32) (v := ?_) (a' := ?_) #[o,o,o,o,o,o,o,o,o,o,o,o,z,z] rfl rfl (take_ofW HT_.out HW_.out (by kernel_rfl)) (fun _ _ _ h => h) (Or.inl ⟨by rfl, ?_⟩) hHeld ?_ ?_
                   rotate_left
                   ·rintro w' ⟨s0, s1, s2, s3, s4, s5, s6, s7, s8, s9, s10, s11, s12, s13, s14, s15⟩
                    go_simp
                    with_reducible rfl
                   rotate_left
                   ·simp only [Act.put, qa, qb, qc, i64_w, i32_w]
                    rfl
                   refine one_ (i := 12) (N := some 33) #[o,o,o,o,o,o,o,o,o,o,o,o,o,z] rfl rfl (one_of HT_.out (by kernel_rfl)) (by decide) (fun K hK => ?_)
                   refine goes_ Try.func52 (by kernel_rfl) rfl #[.agg #[.int .i64 ((rd_T37 l0 x4_1).f0), .int .i64 ((rd_T37 l0 x4_1).f1), .int .i64 ((rd_T37 l0 x4_1).f2.f0), .int .i64 ((rd_T37 l0 x4_1).f2.f1), .int .i64 ((rd_T37 l0 x4_1).f3), .int .i64 ((rd_T37 l0 x4_1).f4), .int .i64 ((rd_T37 l0 x4_1).f5.f0), .int .i64 ((rd_T37 l0 x4_1).f5.f1)], .agg #[.int .i64 ((rd_T37 x3_1 (ji13)).f0), .int .i64 ((rd_T37 x3_1 (ji13)).f1), .int .i64 ((rd_T37 x3_1 (ji13)).f2.f0), .int .i64 ((rd_T37 x3_1 (ji13)).f2.f1), .int .i64 ((rd_T37 x3_1 (ji13)).f3), .int .i64 ((rd_T37 x3_1 (ji13)).f4), .int .i64 ((rd_T37 x3_1 (ji13)).f5.f0), .int .i64 ((rd_T37 x3_1 (ji13)).f5.f1)]] (by rfl) rfl rfl (by (try simp only [List.map_toArray, List.map_cons, List.map_nil]); first | done | (simp only [hji13]; rfl) | rfl | (simp only [List.length_drop, List.length_take]; rfl)) ?_
                   with_reducible refine (spec_IsBefore.calls ((rd_T37 l0 x4_1).f0) ((rd_T37 l0 x4_1).f1) ((rd_T37 l0 x4_1).f2.f0) ((rd_T37 l0 x4_1).f2.f1) ((rd_T37 l0 x4_1).f3) ((rd_T37 l0 x4_1).f4) ((rd_T37 l0 x4_1).f5.f0) ((rd_T37 l0 x4_1).f5.f1) ((rd_T37 x3_1 (ji13)).f0) ((rd_T37 x3_1 (ji13)).f1) ((rd_T37 x3_1 (ji13)).f2.f0) ((rd_T37 x3_1 (ji13)).f2.f1) ((rd_T37 x3_1 (ji13)).f3) ((rd_T37 x3_1 (ji13)).f4) ((rd_T37 x3_1 (ji13)).f5.f0) ((rd_T37 x3_1 (ji13)).f5.f1) false _ A16.out).mono ?_
                   rintro e w28 ⟨rfl, hb⟩
                   have HS8_ := (hb.cell (World.block_lt_of_cell? _ _ (hHeld.2.2.2.2.2.2.2.2.1))).trans (hHeld.2.2.2.2.2.2.2.2.1)
                   have HS9_ := (hb.cell (World.block_lt_of_cell? _ _ (hHeld.2.2.2.2.2.2.2.2.2.1))).trans (hHeld.2.2.2.2.2.2.2.2.2.1)
                   have HS10_ := (hb.cell (World.block_lt_of_cell? _ _ (hHeld.2.2.2.2.2.2.2.2.2.2.1))).trans (hHeld.2.2.2.2.2.2.2.2.2.2.1)
                   have HS11_ := (hb.cell (World.block_lt_of_cell? _ _ (hHeld.2.2.2.2.2.2.2.2.2.2.2.1))).trans (hHeld.2.2.2.2.2.2.2.2.2.2.2.1)
                   have HS12_ := (hb.cell (World.block_lt_of_cell? _ _ (hHeld.2.2.2.2.2.2.2.2.2.2.2.2.1))).trans (hHeld.2.2.2.2.2.2.2.2.2.2.2.2.1)
                   have HS13_ := (hb.cell (World.block_lt_of_cell? _ _ (hHeld.2.2.2.2.2.2.2.2.2.2.2.2.2.1))).trans (hHeld.2.2.2.2.2.2.2.2.2.2.2.2.2.1)
                   have HS14_ := (hb.cell (World.block_lt_of_cell? _ _ (hHeld.2.2.2.2.2.2.2.2.2.2.2.2.2.2.1))).trans (hHeld.2.2.2.2.2.2.2.2.2.2.2.2.2.2.1)
                   have HS15_ := (hb.cell (World.block_lt_of_cell? _ _ (hHeld.2.2.2.2.2.2.2.2.2.2.2.2.2.2.2))).trans (hHeld.2.2.2.2.2.2.2.2.2.2.2.2.2.2.2)
                   refine ⟨_, rfl, ?_⟩
                   replace HO_3 := am (Kd.R_below (rB HO_3.out) hb)
                   replace HB := am (below_step (sB HB.out) hb)
                   (try clear hb)
                   (try clear hb2)
                   (try clear hk)
                   (try clear hi)
                   refine hK.out _ _ ⟨(hc_ HB hw201_0), (hc_ HB hw201_1), (hc_ HB hw201_2), (hc_ HB hw201_3), (hc_ HB hw201_4), (hc_ HB hw201_5), (hc_ HB hw201_6), (hc_ HB hw201_7), HS8_, HS9_, HS10_, HS11_, HS12_, HS13_, HS14_, HS15_⟩ (fun hHeld => ?_)
                   clear hK K
                   refine norm_ (a' := ?_) ?_ ?_
                   rotate_left
                   ·show Act.put _ (some 33) _ = _
                    simp only [Act.put, qa, qb, qc, i64_w, i32_w]
                    rfl
                   refine pure_ (i := 13) (N := some 34) (v := ?_) (a' := ?_) #[o,o,o,o,o,o,o,o,o,o,o,o,o,o] rfl rfl (any_of HT_.out (by kernel_rfl)) (fun _ _ _ h => h) (Or.inl ⟨by rfl, ?_⟩) ?_ ?_
                   rotate_left
                   ·intro w'
                    go_simp
                    with_reducible rfl
                   rotate_left
                   ·simp only [Act.put, qa, qb, qc, i64_w, i32_w]
                    rfl
                   refine done_ (done_of HT_.out (by kernel_rfl)) ?_
                   try go_wp2
                   replace HO_3 := am (Kd.R_drew HO_3.out)
                   replace HB := am (below_drew1 HB.out)
                   have q30 : (x5_2 : Int) ≤ ((x3_1.length : Int) : Int) := of_decide_eq_true (by first | (with_reducible assumption) | assumption)
                   obtain ⟨i030, hi030, _, hsz30, _⟩ := info_parts info37
                   have hroom30 : x3_1.length ≤ co9 := (Kd.R_reads' HO_3.out).2.1
                   have hC30 : Kd.C k37 _ (some ad202) x3_1.length x3_1 := (Kd.R_reads' HO_3.out).2.2
                   have hcut30 := cut_to (P := Try.prog) 24 37 .i64 Try.underlying24 hi030 (some ad202) x3_1.length co9 x5_2 (of_decide_eq_true (by first | (with_reducible assumption) | assumption)) q30 hroom30
                   have hr30 := Kd.C_take (m := (x5_2 : Int).toNat) hC30 (by omega)
                   have hy30 : y207.length = (x5_2 : Int).toNat := (by rw [Ny207.out, List.length_take]; omega)
                   rw [← Ny207.out] at hr30
                   rw [← hy30] at hcut30
                   have HR210 : Aside0 (∀ (W_ : World) (ok_ : Nat → Prop), Kd.R k37 37 W_ w.heap.size ok_ (.slice (some ad202) x3_1.length co9) x3_1 → Kd.C k37 W_ (some ad202) y207.length y207) := ⟨fun W_ ok_ h_ => by have h2_ := Kd.C_take (m := (x5_2 : Int).toNat) (Kd.R_reads' h_).2.2 (by omega); rw [← Ny207.out] at h2_; exact h2_⟩
                   have HC210 := am (show y207.length ≤ co9 from by omega)
                   clear hr30 hC30 hroom30 hi030 hsz30
                   have KY30 := Aside0.mk hy30
                   clear hy30
                   replace q30 := eq_true q30
                   have p214 : 0 ≤ (x4_1 : Int) := of_decide_eq_true (by first | (with_reducible assumption) | assumption)
                   have q214 : x4_1 < (l0.length : Int) := of_decide_eq_true (by first | (with_reducible assumption) | assumption)
                   obtain ⟨ad214, e214, hx214_0, hx214_1, hx214_2, hx214_3, hx214_4, hx214_5, hx214_6, hx214_7⟩ := at_T37 HR0.out x4_1 p214 q214
                   have hw214_7 := hx214_7
                   have hw214_6 := hx214_6
                   have hw214_5 := hx214_5
                   have hw214_4 := hx214_4
                   have hw214_3 := hx214_3
                   have hw214_2 := hx214_2
                   have hw214_1 := hx214_1
                   have hw214_0 := hx214_0
                   obtain rfl : ad199 = ad214 := (by injection e214)
                   replace hx214_0 := hc_ HB hx214_0
                   replace hx214_1 := hc_ HB hx214_1
                   replace hx214_2 := hc_ HB hx214_2
                   replace hx214_3 := hc_ HB hx214_3
                   replace hx214_4 := hc_ HB hx214_4
                   replace hx214_5 := hc_ HB hx214_5
                   replace hx214_6 := hc_ HB hx214_6
                   replace hx214_7 := hc_ HB hx214_7
                   replace p214 := eq_true p214
                   replace q214 := eq_true q214
                   have q31 : (x5_2 : Int) ≤ ((x3_1.length : Int) : Int) := of_decide_eq_true (by first | (with_reducible assumption) | assumption)
                   obtain ⟨i031, hi031, _, hsz31, _⟩ := info_parts info37
                   have hroom31 : x3_1.length ≤ co9 := (Kd.R_reads' HO_3.out).2.1
                   have hC31 : Kd.C k37 _ (some ad202) x3_1.length x3_1 := (Kd.R_reads' HO_3.out).2.2
                   have q031 : (0 : Int) ≤ (x5_2 : Int) := of_decide_eq_true (by first | (with_reducible assumption) | assumption)
                   have hcut31 := cut_from (P := Try.prog) 24 37 .i64 Try.underlying24 hi031 8 hsz31 (some ad202) x3_1.length co9 x5_2 q031 q31
                   have hr31 := Kd.C_drop (m := (x5_2 : Int).toNat) (c := co9) hC31 (by omega) hroom31
                   obtain ⟨A31, hA31⟩ : ∃ A1, A1 = (if co9 = (x5_2 : Int).toNat then (some ad202) else ((some ad202) : Option Addr).map (·.add ((x5_2 : Int).toNat * 8))) := ⟨_, rfl⟩
                   obtain ⟨c31, hc31⟩ : ∃ c1, c1 = co9 - (x5_2 : Int).toNat := ⟨_, rfl⟩
                   have hy31 : y221.length = x3_1.length - (x5_2 : Int).toNat := (by rw [Ny221.out, List.length_drop] <;> omega)
                   rw [show (x3_1).drop (x5_2 : Int).toNat = y221 from Ny221.out.symm] at hr31
                   replace hr31 : Kd.C k37 _ A31 y221.length y221 := (by rw [hA31]; exact hr31)
                   rw [← hy31, ← hA31, ← hc31] at hcut31
                   have HR224 : Aside0 (∀ (W_ : World) (ok_ : Nat → Prop), Kd.R k37 37 W_ w.heap.size ok_ (.slice (some ad202) x3_1.length co9) x3_1 → Kd.C k37 W_ A31 y221.length y221) := ⟨fun W_ ok_ h_ => by have h2_ := Kd.C_drop (m := (x5_2 : Int).toNat) (c := co9) (Kd.R_reads' h_).2.2 (by omega) hroom31; rw [show (x3_1).drop (x5_2 : Int).toNat = y221 from Ny221.out.symm] at h2_; rw [hA31]; exact h2_⟩
                   have HC224 := am (show y221.length ≤ c31 from by rw [hy31, hc31]; exact Nat.sub_le_sub_right hroom31 _)
                   clear hr31 hC31 hroom31 hi031 hsz31 hc31
                   have KY31 := Aside0.mk hy31
                   have KA31 := Aside0.mk hA31
                   clear hy31 hA31
                   replace q31 := eq_true q31
                   refine start_ (n := 16) (S := fun w' => w'.cell? (ad199.add ((x4_1).toNat * 8)) = some (.int .i64 ((rd_T37 l0 x4_1).f0)) ∧ w'.cell? ⟨(ad199.add ((x4_1).toNat * 8)).block, (ad199.add ((x4_1).toNat * 8)).off + 1, none⟩ = some (.int .i64 ((rd_T37 l0 x4_1).f1)) ∧ w'.cell? ⟨(ad199.add ((x4_1).toNat * 8)).block, (ad199.add ((x4_1).toNat * 8)).off + 2, none⟩ = some (.int .i64 ((rd_T37 l0 x4_1).f2.f0)) ∧ w'.cell? ⟨(ad199.add ((x4_1).toNat * 8)).block, (ad199.add ((x4_1).toNat * 8)).off + 3, none⟩ = some (.int .i64 ((rd_T37 l0 x4_1).f2.f1)) ∧ w'.cell? ⟨(ad199.add ((x4_1).toNat * 8)).block, (ad199.add ((x4_1).toNat * 8)).off + 4, none⟩ = some (.int .i64 ((rd_T37 l0 x4_1).f3)) ∧ w'.cell? ⟨(ad199.add ((x4_1).toNat * 8)).block, (ad199.add ((x4_1).toNat * 8)).off + 5, none⟩ = some (.int .i64 ((rd_T37 l0 x4_1).f4)) ∧ w'.cell? ⟨(ad199.add ((x4_1).toNat * 8)).block, (ad199.add ((x4_1).toNat * 8)).off + 6, none⟩ = some (.int .i64 ((rd_T37 l0 x4_1).f5.f0)) ∧ w'.cell? ⟨(ad199.add ((x4_1).toNat * 8)).block, (ad199.add ((x4_1).toNat * 8)).off + 7, none⟩ = some (.int .i64 ((rd_T37 l0 x4_1).f5.f1))) (ds := []) #[z,z,z,z,z,z,z,z,z,z,z,z,z,z,z,z] (by kernel_rfl) rfl rfl ⟨(hc_ HB hw214_0), (hc_ HB hw214_1), (hc_ HB hw214_2), (hc_ HB hw214_3), (hc_ HB hw214_4), (hc_ HB hw214_5), (hc_ HB hw214_6), (hc_ HB hw214_7)⟩ (fun hHeld => ?_); refine with_tabW spec_SortRules.tab9 spec_SortRules.bits9 (fun HT_ HW_ => ?_)
                   generalize w28.drew = w29 at HO_3 HB hx214_0 hx214_1 hx214_2 hx214_3 hx214_4 hx214_5 hx214_6 hx214_7 hHeld ⊢
                   refine pure_ (i := 1) (N := some 38) (v := ?_) (a' := ?_) #[z,o,z,z,z,z,z,z,z,z,z,z,z,z,z,z] rfl rfl (any_of HT_.out (by kernel_rfl)) (fun _ _ _ h => h) (Or.inl ⟨by rfl, ?_⟩) ?_ ?_
                   rotate_left
                   ·intro w'
                    go_simp
                    with_reducible rfl
                   rotate_left
                   ·simp only [Act.put, qa, qb, qc, i64_w, i32_w]
                    rfl
                   refine pure_ (i := 2) (N := some 39) (v := ?_) (a' := ?_) #[z,o,o,z,z,z,z,z,z,z,z,z,z,z,z,z] rfl rfl (any_of HT_.out (by kernel_rfl)) (fun _ _ _ h => h) (Or.inl ⟨by rfl, ?_⟩) ?_ ?_
                   rotate_left
                   ·intro w'
                    go_simp
                    with_reducible rfl
                   rotate_left
                   ·simp only [Act.put, qa, qb, qc, i64_w, i32_w]
                    rfl
                   refine pure_ (i := 3) (N := some 40) (v := ?_) (a' := ?_) #[z,o,o,o,z,z,z,z,z,z,z,z,z,z,z,z] rfl rfl (any_of HT_.out (by kernel_rfl)) (fun _ _ _ h => h) (Or.inl ⟨by rfl, ?_⟩) ?_ ?_
                   rotate_left
                   ·intro w'
                    go_simp
                    with_reducible rfl
                   rotate_left
                   ·simp only [Act.put, qa, qb, qc, i64_w, i32_w]
                    rfl
                   refine pure_ (i := 5) (N := some 42) (v := ?_) (a' := ?_) #[z,o,o,o,z,o,z,z,z,z,z,z,z,z,z,z] rfl rfl (any_of HT_.out (by kernel_rfl)) (fun _ _ _ h => h) (Or.inl ⟨by rfl, ?_⟩) ?_ ?_
                   rotate_left
                   ·intro w'
                    go_simp
                    with_reducible rfl
                   rotate_left
                   ·simp only [Act.put, qa, qb, qc, i64_w, i32_w]
                    rfl
                   refine pure_ (i := 6) (N := some 43) (v := ?_) (a' := ?_) #[z,o,o,o,z,o,o,z,z,z,z,z,z,z,z,z] rfl rfl (any_of HT_.out (by kernel_rfl)) (fun _ _ _ h => h) (Or.inl ⟨by rfl, ?_⟩) ?_ ?_
                   rotate_left
                   ·intro w'
                    go_simp
                    with_reducible rfl
                   rotate_left
                   ·simp only [Act.put, qa, qb, qc, i64_w, i32_w]
                    rfl
                   refine pure_ (i := 7) (N := some 44) (v := ?_) (a' := ?_) #[z,o,o,o,z,o,o,o,z,z,z,z,z,z,z,z] rfl rfl (any_of HT_.out (by kernel_rfl)) (fun _ _ _ h => h) (Or.inl ⟨by rfl, ?_⟩) ?_ ?_
                   rotate_left
                   ·intro w'
                    go_simp
                    with_reducible rfl
                   rotate_left
                   ·simp only [Act.put, qa, qb, qc, i64_w, i32_w]
                    rfl
                   refine pure_ (i := 11) (N := some 48) (v := ?_) (a' := ?_) #[z,o,o,o,z,o,o,o,z,z,z,o,z,z,z,z] rfl rfl (any_of HT_.out (by kernel_rfl)) (fun _ _ _ h => h) (Or.inl ⟨by rfl, ?_⟩) ?_ ?_
                   rotate_left
                   ·intro w'
                    go_simp
                    with_reducible rfl
                   rotate_left
                   ·simp only [Act.put, qa, qb, qc, i64_w, i32_w]
                    rfl
                   refine pure_ (i := 12) (N := some 49) (v := ?_) (a' := ?_) #[z,o,o,o,z,o,o,o,z,z,z,o,o,z,z,z] rfl rfl (any_of HT_.out (by kernel_rfl)) (fun _ _ _ h => h) (Or.inl ⟨by rfl, ?_⟩) ?_ ?_
                   rotate_left
                   ·intro w'
                    go_simp
                    with_reducible rfl
                   rotate_left
                   ·simp only [Act.put, qa, qb, qc, i64_w, i32_w]
                    rfl
                   refine pure_ (i := 13) (N := some 50) (v := ?_) (a' := ?_) #[z,o,o,o,z,o,o,o,z,z,z,o,o,o,z,z] rfl rfl (any_of HT_.out (by kernel_rfl)) (fun _ _ _ h => h) (Or.inl ⟨by rfl, ?_⟩) ?_ ?_
                   rotate_left
                   ·intro w'
                    go_simp
                    with_reducible rfl
                   rotate_left
                   ·simp only [Act.put, qa, qb, qc, i64_w, i32_w]
                    rfl
                   refine take_ (i := 8) (N := some 45) (v := ?_) (a' := ?_) #[z,o,o,o,z,o,o,o,o,z,z,o,o,o,z,z] rfl rfl (take_ofW HT_.out HW_.out (by kernel_rfl)) (fun _ _ _ h => h) (Or.inl ⟨by rfl, ?_⟩) hHeld ?_ ?_
                   rotate_left
                   ·rintro w' ⟨s0, s1, s2, s3, s4, s5, s6, s7⟩
                    go_simp
                    with_reducible rfl
                   rotate_left
                   ·simp only [Act.put, qa, qb, qc, i64_w, i32_w]
                    rfl
                   refine join_ (σ := Value × Value × Value) 3 #[o,o,o,o,o,o,o,o,o,o,z,o,o,o,z,z] (fun s_ => [(37, s_.1), (41, s_.2.1), (46, s_.2.2)]) (fun s_ w' => (w'.cell? (ad199.add ((x4_1).toNat * 8)) = some (.int .i64 ((rd_T37 l0 x4_1).f0)) ∧ w'.cell? ⟨(ad199.add ((x4_1).toNat * 8)).block, (ad199.add ((x4_1).toNat * 8)).off + 1, none⟩ = some (.int .i64 ((rd_T37 l0 x4_1).f1)) ∧ w'.cell? ⟨(ad199.add ((x4_1).toNat * 8)).block, (ad199.add ((x4_1).toNat * 8)).off + 2, none⟩ = some (.int .i64 ((rd_T37 l0 x4_1).f2.f0)) ∧ w'.cell? ⟨(ad199.add ((x4_1).toNat * 8)).block, (ad199.add ((x4_1).toNat * 8)).off + 3, none⟩ = some (.int .i64 ((rd_T37 l0 x4_1).f2.f1)) ∧ w'.cell? ⟨(ad199.add ((x4_1).toNat * 8)).block, (ad199.add ((x4_1).toNat * 8)).off + 4, none⟩ = some (.int .i64 ((rd_T37 l0 x4_1).f3)) ∧ w'.cell? ⟨(ad199.add ((x4_1).toNat * 8)).block, (ad199.add ((x4_1).toNat * 8)).off + 5, none⟩ = some (.int .i64 ((rd_T37 l0 x4_1).f4)) ∧ w'.cell? ⟨(ad199.add ((x4_1).toNat * 8)).block, (ad199.add ((x4_1).toNat * 8)).off + 6, none⟩ = some (.int .i64 ((rd_T37 l0 x4_1).f5.f0)) ∧ w'.cell? ⟨(ad199.add ((x4_1).toNat * 8)).block, (ad199.add ((x4_1).toNat * 8)).off + 7, none⟩ = some (.int .i64 ((rd_T37 l0 x4_1).f5.f1))) ∧ (Kd.R k37 37 w' w.heap.size (fun k_ => some k_ ≠ (s_.2.2 : Value).ownBlock ∧ some k_ ≠ (.slice (some ad202) x3_1.length co9 : Value).ownBlock) s_.2.1 y211) ∧ (Kd.R k37 37 w' w.heap.size (fun k_ => some k_ ≠ (s_.2.1 : Value).ownBlock ∧ some k_ ≠ (.slice (some ad202) x3_1.length co9 : Value).ownBlock) s_.2.2 y215) ∧ (Kd.R k37 37 w' w.heap.size (fun k_ => some k_ ≠ (s_.2.1 : Value).ownBlock ∧ some k_ ≠ (s_.2.2 : Value).ownBlock) (.slice (some ad202) x3_1.length co9) x3_1) ∧ (Below w.heap.size w w')) ?_ ?_
                   rotate_left
                   ·intro hCont
                    refine two_ (i := 0) (j := 9) (Ni := some 37) (Nj := some 46) #[o,o,o,o,z,o,o,o,o,z,z,o,o,o,z,z] #[z,o,o,o,z,o,o,o,o,o,z,o,o,o,z,z] rfl rfl rfl rfl (two_of HT_.out (by kernel_rfl)) (by decide) (by decide) (fun K hK => ?_) (fun K hK => ?_)
                    ·skip
                     refine Kd.R_lit_step k37 _ 37 ?hg (N := 37) ?hd (xs := ([] : List (S37))) (inner := []) (ok := fun _ => True) (okp := fun _ => True) ?hr ?hp (fun _ hk => hk) trivial (Below.refl _ _) (Nat.le_refl _) (by simp) ?_; (case hd => rfl); (case hg => rfl); (case hr => first | (go_simp; done) | (go_simp; rfl)); (case hp => exact (Reps.none _ _))
                     intro v205 w32 ho33 hb hg_ hnew_
                     clear hg_ hnew_
                     (first | rw [← Ny204.out] at ho33 | (simp only [Int.reduceToNat] at ho33; rw [← Ny204.out] at ho33))
                     have n0_ := am (Kd.R_elder' (rB HO_3.out) (Kd.R_base ho33) hb)
                     have n1_ := am (Kd.R_lower (Kd.R_new' ho33 (Kd.R_lt (rB HO_3.out))) (below_size (sB HB.out)))
                     have n2_ := am (below_step (sB HB.out) hb)
                     clear HO_3
                     clear HB
                     have HO_3 := n0_
                     have HO206 := n1_
                     have HB := n2_
                     clear n0_ n1_ n2_
                     clear hb ho33
                     refine hK.out _ _ ⟨(hc_ HB hw214_0), (hc_ HB hw214_1), (hc_ HB hw214_2), (hc_ HB hw214_3), (hc_ HB hw214_4), (hc_ HB hw214_5), (hc_ HB hw214_6), (hc_ HB hw214_7)⟩ (fun hHeld => ?_)
                     clear hK K
                     refine norm_ (a' := ?_) ?_ ?_
                     rotate_left
                     ·show Act.put _ (some 37) _ = _
                      simp only [Act.put, qa, qb, qc, i64_w, i32_w]
                      rfl
                     refine two_ (i := 4) (j := 9) (Ni := some 41) (Nj := some 46) #[o,o,o,o,o,o,o,o,o,z,z,o,o,o,z,z] #[o,o,o,o,z,o,o,o,o,o,z,o,o,o,z,z] rfl rfl rfl rfl (two_of HT_.out (by kernel_rfl)) (by decide) (by decide) (fun K hK => ?_) (fun K hK => ?_)
                     ·skip
                      refine Kd.R_append_rows_step k37 (w0 := w) w.heap.size (by rfl) (.tmp 37) (.tmp 40) 24 37 (.agg #[(.int .i64 0), (.int .i64 0), (.int .i64 0), (.int .i64 0), (.int .i64 0), (.int .i64 0), (.int .i64 0), (.int .i64 0)]) 64 rfl Try.underlying24 info37 rfl (by decide) (by omega) v205 y204 y207 _ _ _ (fun k_ => some k_ ≠ (.slice (some ad202) x3_1.length co9 : Value).ownBlock) (fun _ => False) rfl rfl ?aO ?aR (fun _ _ h => h) (fun _ h => h.elim) ?aF ?aB ?aS ?aL ?_
                      (case aR => repeat (first | exact HR210.out _ _ HO_3.out | (with_reducible refine Kd.C_alloc ?_ _) | (with_reducible refine Kd.C_drewN ?_ _) | (with_reducible refine Kd.C_drew ?_)))
                      (case aB => exact (sB HB.out))
                      (case aF => exact (fun k_ hk => Kd.fresh' (Kd.R_lt (rB HO_3.out)) k_ hk))
                      (case aO => exact (by (with_reducible repeat (first | apply Kd.R_alloc | apply Kd.R_drewN | apply Kd.R_drew)); exact Kd.R_mono HO206.out (fun _ hk => hk.2)))
                      (case aS => exact (below_size (sB HB.out)))
                      (case aL => have := LMc22.out; omega)
                      intro v212 w34 ho hb hg hat
                      rw [← Ny211.out] at ho
                      have n0_ := am (Kd.R_after (ok := (fun _ => True)) (rB HO_3.out) hg hat)
                      have n1_ := am (hb)
                      have n2_ := am (ho)
                      clear HO_3
                      clear HB
                      clear HO206
                      have HO_3 := n0_
                      have HB := n1_
                      have HO213 := n2_
                      clear n0_ n1_ n2_
                      clear ho hb hg hat
                      refine hK.out _ _ ⟨(hc_ HB hw214_0), (hc_ HB hw214_1), (hc_ HB hw214_2), (hc_ HB hw214_3), (hc_ HB hw214_4), (hc_ HB hw214_5), (hc_ HB hw214_6), (hc_ HB hw214_7)⟩ (fun hHeld => ?_)
                      clear hK K
                      refine norm_ (a' := ?_) ?_ ?_
                      rotate_left
                      ·show Act.put _ (some 41) _ = _
                       simp only [Act.put, qa, qb, qc, i64_w, i32_w]
                       rfl
                      refine one_ (i := 9) (N := some 46) #[o,o,o,o,o,o,o,o,o,o,z,o,o,o,z,z] rfl rfl (one_of HT_.out (by kernel_rfl)) (by decide) (fun K hK => ?_)
                      refine Kd.R_lit_step k37 _ 37 ?hg (N := 46) ?hd (xs := ([(⟨(rd_T37 l0 x4_1).f0, (rd_T37 l0 x4_1).f1, (⟨(rd_T37 l0 x4_1).f2.f0, (rd_T37 l0 x4_1).f2.f1⟩ : S35), (rd_T37 l0 x4_1).f3, (rd_T37 l0 x4_1).f4, (⟨(rd_T37 l0 x4_1).f5.f0, (rd_T37 l0 x4_1).f5.f1⟩ : S26)⟩ : S37)] : List (S37))) (inner := [.int .i64 ((rd_T37 l0 x4_1).f0), .int .i64 ((rd_T37 l0 x4_1).f1), .int .i64 ((rd_T37 l0 x4_1).f2.f0), .int .i64 ((rd_T37 l0 x4_1).f2.f1), .int .i64 ((rd_T37 l0 x4_1).f3), .int .i64 ((rd_T37 l0 x4_1).f4), .int .i64 ((rd_T37 l0 x4_1).f5.f0), .int .i64 ((rd_T37 l0 x4_1).f5.f1)]) (ok := fun _ => True) (okp := fun _ => True) ?hr ?hp (fun _ hk => hk) trivial (Below.refl _ _) (Nat.le_refl _) (by simp) ?_; (case hd => rfl); (case hg => rfl); (case hr => first | (go_simp; done) | (go_simp; rfl)); (case hp => exact (Reps.c8 (show Kd.M k37 _ _ _ (⟨(rd_T37 l0 x4_1).f0, (rd_T37 l0 x4_1).f1, (⟨(rd_T37 l0 x4_1).f2.f0, (rd_T37 l0 x4_1).f2.f1⟩ : S35), (rd_T37 l0 x4_1).f3, (rd_T37 l0 x4_1).f4, (⟨(rd_T37 l0 x4_1).f5.f0, (rd_T37 l0 x4_1).f5.f1⟩ : S26)⟩ : S37) [.int .i64 ((rd_T37 l0 x4_1).f0), .int .i64 ((rd_T37 l0 x4_1).f1), .int .i64 ((rd_T37 l0 x4_1).f2.f0), .int .i64 ((rd_T37 l0 x4_1).f2.f1), .int .i64 ((rd_T37 l0 x4_1).f3), .int .i64 ((rd_T37 l0 x4_1).f4), .int .i64 ((rd_T37 l0 x4_1).f5.f0), .int .i64 ((rd_T37 l0 x4_1).f5.f1)] from (k37_mkM _ _ _ (⟨(rd_T37 l0 x4_1).f0, (rd_T37 l0 x4_1).f1, (⟨(rd_T37 l0 x4_1).f2.f0, (rd_T37 l0 x4_1).f2.f1⟩ : S35), (rd_T37 l0 x4_1).f3, (rd_T37 l0 x4_1).f4, (⟨(rd_T37 l0 x4_1).f5.f0, (rd_T37 l0 x4_1).f5.f1⟩ : S26)⟩ : S37) )) (Reps.none _ _)))
                      intro v216 w35 ho36 hb hg_ hnew_
                      clear hg_ hnew_
                      (first | rw [← Ny215.out] at ho36 | (simp only [Int.reduceToNat] at ho36; rw [← Ny215.out] at ho36))
                      have n0_ := am (Kd.R_elder' (rB HO_3.out) (Kd.R_base ho36) hb)
                      have n1_ := am (Kd.R_elder' (rB HO213.out) (Kd.R_base ho36) hb)
                      have n2_ := am (Kd.R_lower (Kd.R_new' (Kd.R_new' ho36 (Kd.R_lt (rB HO_3.out))) (Kd.R_lt (rB HO213.out))) (below_size (sB HB.out)))
                      have n3_ := am (below_step (sB HB.out) hb)
                      clear HO_3
                      clear HO213
                      clear HB
                      have HO_3 := n0_
                      have HO213 := n1_
                      have HO217 := n2_
                      have HB := n3_
                      clear n0_ n1_ n2_ n3_
                      clear hb ho36
                      refine hK.out _ _ ⟨(hc_ HB hw214_0), (hc_ HB hw214_1), (hc_ HB hw214_2), (hc_ HB hw214_3), (hc_ HB hw214_4), (hc_ HB hw214_5), (hc_ HB hw214_6), (hc_ HB hw214_7)⟩ (fun hHeld => ?_)
                      clear hK K
                      refine norm_ (a' := ?_) ?_ ?_
                      rotate_left
                      ·show Act.put _ (some 46) _ = _
                       simp only [Act.put, qa, qb, qc, i64_w, i32_w]
                       rfl
                      exact norm_ (by simp only [putAll, Act.put, List.setIfInBounds_toArray, List.set_cons_zero, List.set_cons_succ]) (hCont (v205, v212, v216) _ ⟨hHeld, (by (with_reducible repeat (first | apply Kd.R_alloc | apply Kd.R_drewN | apply Kd.R_drew)); exact Kd.R_mono HO213.out (fun _ hk => ⟨hk.2, hk.1⟩)), (by (with_reducible repeat (first | apply Kd.R_alloc | apply Kd.R_drewN | apply Kd.R_drew)); exact Kd.R_mono HO217.out (fun _ hk => ⟨hk.2, hk.1.2⟩)), (by (with_reducible repeat (first | apply Kd.R_alloc | apply Kd.R_drewN | apply Kd.R_drew)); exact Kd.R_mono HO_3.out (fun _ hk => ⟨hk.1.2, hk.2⟩)), (sB HB.out)⟩)
                     ·skip
                      refine Kd.R_lit_step k37 _ 37 ?hg (N := 46) ?hd (xs := ([(⟨(rd_T37 l0 x4_1).f0, (rd_T37 l0 x4_1).f1, (⟨(rd_T37 l0 x4_1).f2.f0, (rd_T37 l0 x4_1).f2.f1⟩ : S35), (rd_T37 l0 x4_1).f3, (rd_T37 l0 x4_1).f4, (⟨(rd_T37 l0 x4_1).f5.f0, (rd_T37 l0 x4_1).f5.f1⟩ : S26)⟩ : S37)] : List (S37))) (inner := [.int .i64 ((rd_T37 l0 x4_1).f0), .int .i64 ((rd_T37 l0 x4_1).f1), .int .i64 ((rd_T37 l0 x4_1).f2.f0), .int .i64 ((rd_T37 l0 x4_1).f2.f1), .int .i64 ((rd_T37 l0 x4_1).f3), .int .i64 ((rd_T37 l0 x4_1).f4), .int .i64 ((rd_T37 l0 x4_1).f5.f0), .int .i64 ((rd_T37 l0 x4_1).f5.f1)]) (ok := fun _ => True) (okp := fun _ => True) ?hr ?hp (fun _ hk => hk) trivial (Below.refl _ _) (Nat.le_refl _) (by simp) ?_; (case hd => rfl); (case hg => rfl); (case hr => first | (go_simp; done) | (go_simp; rfl)); (case hp => exact (Reps.c8 (show Kd.M k37 _ _ _ (⟨(rd_T37 l0 x4_1).f0, (rd_T37 l0 x4_1).f1, (⟨(rd_T37 l0 x4_1).f2.f0, (rd_T37 l0 x4_1).f2.f1⟩ : S35), (rd_T37 l0 x4_1).f3, (rd_T37 l0 x4_1).f4, (⟨(rd_T37 l0 x4_1).f5.f0, (rd_T37 l0 x4_1).f5.f1⟩ : S26)⟩ : S37) [.int .i64 ((rd_T37 l0 x4_1).f0), .int .i64 ((rd_T37 l0 x4_1).f1), .int .i64 ((rd_T37 l0 x4_1).f2.f0), .int .i64 ((rd_T37 l0 x4_1).f2.f1), .int .i64 ((rd_T37 l0 x4_1).f3), .int .i64 ((rd_T37 l0 x4_1).f4), .int .i64 ((rd_T37 l0 x4_1).f5.f0), .int .i64 ((rd_T37 l0 x4_1).f5.f1)] from (k37_mkM _ _ _ (⟨(rd_T37 l0 x4_1).f0, (rd_T37 l0 x4_1).f1, (⟨(rd_T37 l0 x4_1).f2.f0, (rd_T37 l0 x4_1).f2.f1⟩ : S35), (rd_T37 l0 x4_1).f3, (rd_T37 l0 x4_1).f4, (⟨(rd_T37 l0 x4_1).f5.f0, (rd_T37 l0 x4_1).f5.f1⟩ : S26)⟩ : S37) )) (Reps.none _ _)))
                      intro v216 w34 ho35 hb hg_ hnew_
                      clear hg_ hnew_
                      (first | rw [← Ny215.out] at ho35 | (simp only [Int.reduceToNat] at ho35; rw [← Ny215.out] at ho35))
                      have n0_ := am (Kd.R_elder' (rB HO_3.out) (Kd.R_base ho35) hb)
                      have n1_ := am (Kd.R_elder' (rB HO206.out) (Kd.R_base ho35) hb)
                      have n2_ := am (Kd.R_lower (Kd.R_new' (Kd.R_new' ho35 (Kd.R_lt (rB HO_3.out))) (Kd.R_lt (rB HO206.out))) (below_size (sB HB.out)))
                      have n3_ := am (below_step (sB HB.out) hb)
                      clear HO_3
                      clear HO206
                      clear HB
                      have HO_3 := n0_
                      have HO206 := n1_
                      have HO217 := n2_
                      have HB := n3_
                      clear n0_ n1_ n2_ n3_
                      clear hb ho35
                      refine hK.out _ _ ⟨(hc_ HB hw214_0), (hc_ HB hw214_1), (hc_ HB hw214_2), (hc_ HB hw214_3), (hc_ HB hw214_4), (hc_ HB hw214_5), (hc_ HB hw214_6), (hc_ HB hw214_7)⟩ (fun hHeld => ?_)
                      clear hK K
                      refine norm_ (a' := ?_) ?_ ?_
                      rotate_left
                      ·show Act.put _ (some 46) _ = _
                       simp only [Act.put, qa, qb, qc, i64_w, i32_w]
                       rfl
                      refine one_ (i := 4) (N := some 41) #[o,o,o,o,o,o,o,o,o,o,z,o,o,o,z,z] rfl rfl (one_of HT_.out (by kernel_rfl)) (by decide) (fun K hK => ?_)
                      refine Kd.R_append_rows_step k37 (w0 := w) w.heap.size (by rfl) (.tmp 37) (.tmp 40) 24 37 (.agg #[(.int .i64 0), (.int .i64 0), (.int .i64 0), (.int .i64 0), (.int .i64 0), (.int .i64 0), (.int .i64 0), (.int .i64 0)]) 64 rfl Try.underlying24 info37 rfl (by decide) (by omega) v205 y204 y207 _ _ _ (fun k_ => some k_ ≠ (.slice (some ad202) x3_1.length co9 : Value).ownBlock ∧ some k_ ≠ (v216 : Value).ownBlock) (fun _ => False) rfl rfl ?aO ?aR (fun _ _ h => h) (fun _ h => h.elim) ?aF ?aB ?aS ?aL ?_
                      (case aR => repeat (first | exact HR210.out _ _ HO_3.out | (with_reducible refine Kd.C_alloc ?_ _) | (with_reducible refine Kd.C_drewN ?_ _) | (with_reducible refine Kd.C_drew ?_)))
                      (case aB => exact (sB HB.out))
                      (case aF => exact (fun k_ hk => ⟨Kd.fresh' (Kd.R_lt (rB HO_3.out)) k_ hk, Kd.fresh' (Kd.R_lt (rB HO217.out)) k_ hk⟩))
                      (case aO => exact (by (with_reducible repeat (first | apply Kd.R_alloc | apply Kd.R_drewN | apply Kd.R_drew)); exact Kd.R_mono HO206.out (fun _ hk => ⟨hk.1.2, hk.2⟩)))
                      (case aS => exact (below_size (sB HB.out)))
                      (case aL => have := LMc22.out; omega)
                      intro v212 w36 ho hb hg hat
                      rw [← Ny211.out] at ho
                      have n0_ := am (Kd.R_after (ok := (fun k_ => some k_ ≠ (v216 : Value).ownBlock)) (by (with_reducible repeat (first | apply Kd.R_alloc | apply Kd.R_drewN | apply Kd.R_drew)); exact Kd.R_mono HO_3.out (fun _ hk => ⟨hk.2, hk.1.2⟩)) hg hat)
                      have n1_ := am (Kd.R_after (ok := (fun k_ => some k_ ≠ (.slice (some ad202) x3_1.length co9 : Value).ownBlock)) (by (with_reducible repeat (first | apply Kd.R_alloc | apply Kd.R_drewN | apply Kd.R_drew)); exact Kd.R_mono HO217.out (fun _ hk => ⟨hk.1.2, hk.2⟩)) hg hat)
                      have n2_ := am (hb)
                      have n3_ := am (ho)
                      clear HO_3
                      clear HO217
                      clear HB
                      clear HO206
                      have HO_3 := n0_
                      have HO217 := n1_
                      have HB := n2_
                      have HO213 := n3_
                      clear n0_ n1_ n2_ n3_
                      clear ho hb hg hat
                      refine hK.out _ _ ⟨(hc_ HB hw214_0), (hc_ HB hw214_1), (hc_ HB hw214_2), (hc_ HB hw214_3), (hc_ HB hw214_4), (hc_ HB hw214_5), (hc_ HB hw214_6), (hc_ HB hw214_7)⟩ (fun hHeld => ?_)
                      clear hK K
                      refine norm_ (a' := ?_) ?_ ?_
                      rotate_left
                      ·show Act.put _ (some 41) _ = _
                       simp only [Act.put, qa, qb, qc, i64_w, i32_w]
                       rfl
                      exact norm_ (by simp only [putAll, Act.put, List.setIfInBounds_toArray, List.set_cons_zero, List.set_cons_succ]) (hCont (v205, v212, v216) _ ⟨hHeld, (by (with_reducible repeat (first | apply Kd.R_alloc | apply Kd.R_drewN | apply Kd.R_drew)); exact Kd.R_mono HO213.out (fun _ hk => ⟨hk.2, hk.1⟩)), (by (with_reducible repeat (first | apply Kd.R_alloc | apply Kd.R_drewN | apply Kd.R_drew)); exact Kd.R_mono HO217.out (fun _ hk => ⟨hk.2, hk.1⟩)), (by (with_reducible repeat (first | apply Kd.R_alloc | apply Kd.R_drewN | apply Kd.R_drew)); exact Kd.R_mono HO_3.out (fun _ hk => ⟨hk.2, hk.1⟩)), (sB HB.out)⟩)
                    ·skip
                     refine Kd.R_lit_step k37 _ 37 ?hg (N := 46) ?hd (xs := ([(⟨(rd_T37 l0 x4_1).f0, (rd_T37 l0 x4_1).f1, (⟨(rd_T37 l0 x4_1).f2.f0, (rd_T37 l0 x4_1).f2.f1⟩ : S35), (rd_T37 l0 x4_1).f3, (rd_T37 l0 x4_1).f4, (⟨(rd_T37 l0 x4_1).f5.f0, (rd_T37 l0 x4_1).f5.f1⟩ : S26)⟩ : S37)] : List (S37))) (inner := [.int .i64 ((rd_T37 l0 x4_1).f0), .int .i64 ((rd_T37 l0 x4_1).f1), .int .i64 ((rd_T37 l0 x4_1).f2.f0), .int .i64 ((rd_T37 l0 x4_1).f2.f1), .int .i64 ((rd_T37 l0 x4_1).f3), .int .i64 ((rd_T37 l0 x4_1).f4), .int .i64 ((rd_T37 l0 x4_1).f5.f0), .int .i64 ((rd_T37 l0 x4_1).f5.f1)]) (ok := fun _ => True) (okp := fun _ => True) ?hr ?hp (fun _ hk => hk) trivial (Below.refl _ _) (Nat.le_refl _) (by simp) ?_; (case hd => rfl); (case hg => rfl); (case hr => first | (go_simp; done) | (go_simp; rfl)); (case hp => exact (Reps.c8 (show Kd.M k37 _ _ _ (⟨(rd_T37 l0 x4_1).f0, (rd_T37 l0 x4_1).f1, (⟨(rd_T37 l0 x4_1).f2.f0, (rd_T37 l0 x4_1).f2.f1⟩ : S35), (rd_T37 l0 x4_1).f3, (rd_T37 l0 x4_1).f4, (⟨(rd_T37 l0 x4_1).f5.f0, (rd_T37 l0 x4_1).f5.f1⟩ : S26)⟩ : S37) [.int .i64 ((rd_T37 l0 x4_1).f0), .int .i64 ((rd_T37 l0 x4_1).f1), .int .i64 ((rd_T37 l0 x4_1).f2.f0), .int .i64 ((rd_T37 l0 x4_1).f2.f1), .int .i64 ((rd_T37 l0 x4_1).f3), .int .i64 ((rd_T37 l0 x4_1).f4), .int .i64 ((rd_T37 l0 x4_1).f5.f0), .int .i64 ((rd_T37 l0 x4_1).f5.f1)] from (k37_mkM _ _ _ (⟨(rd_T37 l0 x4_1).f0, (rd_T37 l0 x4_1).f1, (⟨(rd_T37 l0 x4_1).f2.f0, (rd_T37 l0 x4_1).f2.f1⟩ : S35), (rd_T37 l0 x4_1).f3, (rd_T37 l0 x4_1).f4, (⟨(rd_T37 l0 x4_1).f5.f0, (rd_T37 l0 x4_1).f5.f1⟩ : S26)⟩ : S37) )) (Reps.none _ _)))
                     intro v216 w32 ho33 hb hg_ hnew_
                     clear hg_ hnew_
                     (first | rw [← Ny215.out] at ho33 | (simp only [Int.reduceToNat] at ho33; rw [← Ny215.out] at ho33))
                     have n0_ := am (Kd.R_elder' (rB HO_3.out) (Kd.R_base ho33) hb)
                     have n1_ := am (Kd.R_lower (Kd.R_new' ho33 (Kd.R_lt (rB HO_3.out))) (below_size (sB HB.out)))
                     have n2_ := am (below_step (sB HB.out) hb)
                     clear HO_3
                     clear HB
                     have HO_3 := n0_
                     have HO217 := n1_
                     have HB := n2_
                     clear n0_ n1_ n2_
                     clear hb ho33
                     refine hK.out _ _ ⟨(hc_ HB hw214_0), (hc_ HB hw214_1), (hc_ HB hw214_2), (hc_ HB hw214_3), (hc_ HB hw214_4), (hc_ HB hw214_5), (hc_ HB hw214_6), (hc_ HB hw214_7)⟩ (fun hHeld => ?_)
                     clear hK K
                     refine norm_ (a' := ?_) ?_ ?_
                     rotate_left
                     ·show Act.put _ (some 46) _ = _
                      simp only [Act.put, qa, qb, qc, i64_w, i32_w]
                      rfl
                     refine one_ (i := 0) (N := some 37) #[o,o,o,o,z,o,o,o,o,o,z,o,o,o,z,z] rfl rfl (one_of HT_.out (by kernel_rfl)) (by decide) (fun K hK => ?_)
                     refine Kd.R_lit_step k37 _ 37 ?hg (N := 37) ?hd (xs := ([] : List (S37))) (inner := []) (ok := fun _ => True) (okp := fun _ => True) ?hr ?hp (fun _ hk => hk) trivial (Below.refl _ _) (Nat.le_refl _) (by simp) ?_; (case hd => rfl); (case hg => rfl); (case hr => first | (go_simp; done) | (go_simp; rfl)); (case hp => exact (Reps.none _ _))
                     intro v205 w34 ho35 hb hg_ hnew_
                     clear hg_ hnew_
                     (first | rw [← Ny204.out] at ho35 | (simp only [Int.reduceToNat] at ho35; rw [← Ny204.out] at ho35))
                     have n0_ := am (Kd.R_elder' (rB HO_3.out) (Kd.R_base ho35) hb)
                     have n1_ := am (Kd.R_elder' (rB HO217.out) (Kd.R_base ho35) hb)
                     have n2_ := am (Kd.R_lower (Kd.R_new' (Kd.R_new' ho35 (Kd.R_lt (rB HO_3.out))) (Kd.R_lt (rB HO217.out))) (below_size (sB HB.out)))
                     have n3_ := am (below_step (sB HB.out) hb)
                     clear HO_3
                     clear HO217
                     clear HB
                     have HO_3 := n0_
                     have HO217 := n1_
                     have HO206 := n2_
                     have HB := n3_
                     clear n0_ n1_ n2_ n3_
                     clear hb ho35
                     refine hK.out _ _ ⟨(hc_ HB hw214_0), (hc_ HB hw214_1), (hc_ HB hw214_2), (hc_ HB hw214_3), (hc_ HB hw214_4), (hc_ HB hw214_5), (hc_ HB hw214_6), (hc_ HB hw214_7)⟩ (fun hHeld => ?_)
                     clear hK K
                     refine norm_ (a' := ?_) ?_ ?_
                     rotate_left
                     ·show Act.put _ (some 37) _ = _
                      simp only [Act.put, qa, qb, qc, i64_w, i32_w]
                      rfl
                     refine one_ (i := 4) (N := some 41) #[o,o,o,o,o,o,o,o,o,o,z,o,o,o,z,z] rfl rfl (one_of HT_.out (by kernel_rfl)) (by decide) (fun K hK => ?_)
                     refine Kd.R_append_rows_step k37 (w0 := w) w.heap.size (by rfl) (.tmp 37) (.tmp 40) 24 37 (.agg #[(.int .i64 0), (.int .i64 0), (.int .i64 0), (.int .i64 0), (.int .i64 0), (.int .i64 0), (.int .i64 0), (.int .i64 0)]) 64 rfl Try.underlying24 info37 rfl (by decide) (by omega) v205 y204 y207 _ _ _ (fun k_ => some k_ ≠ (.slice (some ad202) x3_1.length co9 : Value).ownBlock ∧ some k_ ≠ (v216 : Value).ownBlock) (fun _ => False) rfl rfl ?aO ?aR (fun _ _ h => h) (fun _ h => h.elim) ?aF ?aB ?aS ?aL ?_
                     (case aR => repeat (first | exact HR210.out _ _ HO_3.out | (with_reducible refine Kd.C_alloc ?_ _) | (with_reducible refine Kd.C_drewN ?_ _) | (with_reducible refine Kd.C_drew ?_)))
                     (case aB => exact (sB HB.out))
                     (case aF => exact (fun k_ hk => ⟨Kd.fresh' (Kd.R_lt (rB HO_3.out)) k_ hk, Kd.fresh' (Kd.R_lt (rB HO217.out)) k_ hk⟩))
                     (case aO => exact (by (with_reducible repeat (first | apply Kd.R_alloc | apply Kd.R_drewN | apply Kd.R_drew)); exact Kd.R_mono HO206.out (fun _ hk => ⟨hk.1.2, hk.2⟩)))
                     (case aS => exact (below_size (sB HB.out)))
                     (case aL => have := LMc22.out; omega)
                     intro v212 w36 ho hb hg hat
                     rw [← Ny211.out] at ho
                     have n0_ := am (Kd.R_after (ok := (fun k_ => some k_ ≠ (v216 : Value).ownBlock)) (by (with_reducible repeat (first | apply Kd.R_alloc | apply Kd.R_drewN | apply Kd.R_drew)); exact Kd.R_mono HO_3.out (fun _ hk => ⟨hk.1.2, hk.2⟩)) hg hat)
                     have n1_ := am (Kd.R_after (ok := (fun k_ => some k_ ≠ (.slice (some ad202) x3_1.length co9 : Value).ownBlock)) (by (with_reducible repeat (first | apply Kd.R_alloc | apply Kd.R_drewN | apply Kd.R_drew)); exact Kd.R_mono HO217.out (fun _ hk => ⟨hk.1.2, hk.2⟩)) hg hat)
                     have n2_ := am (hb)
                     have n3_ := am (ho)
                     clear HO_3
                     clear HO217
                     clear HB
                     clear HO206
                     have HO_3 := n0_
                     have HO217 := n1_
                     have HB := n2_
                     have HO213 := n3_
                     clear n0_ n1_ n2_ n3_
                     clear ho hb hg hat
                     refine hK.out _ _ ⟨(hc_ HB hw214_0), (hc_ HB hw214_1), (hc_ HB hw214_2), (hc_ HB hw214_3), (hc_ HB hw214_4), (hc_ HB hw214_5), (hc_ HB hw214_6), (hc_ HB hw214_7)⟩ (fun hHeld => ?_)
                     clear hK K
                     refine norm_ (a' := ?_) ?_ ?_
                     rotate_left
                     ·show Act.put _ (some 41) _ = _
                      simp only [Act.put, qa, qb, qc, i64_w, i32_w]
                      rfl
                     exact norm_ (by simp only [putAll, Act.put, List.setIfInBounds_toArray, List.set_cons_zero, List.set_cons_succ]) (hCont (v205, v212, v216) _ ⟨hHeld, (by (with_reducible repeat (first | apply Kd.R_alloc | apply Kd.R_drewN | apply Kd.R_drew)); exact Kd.R_mono HO213.out (fun _ hk => ⟨hk.2, hk.1⟩)), (by (with_reducible repeat (first | apply Kd.R_alloc | apply Kd.R_drewN | apply Kd.R_drew)); exact Kd.R_mono HO217.out (fun _ hk => ⟨hk.2, hk.1⟩)), (by (with_reducible repeat (first | apply Kd.R_alloc | apply Kd.R_drewN | apply Kd.R_drew)); exact Kd.R_mono HO_3.out (fun _ hk => ⟨hk.2, hk.1⟩)), (sB HB.out)⟩)
                   rintro ⟨v205, v212, v216⟩ w37 ⟨hS_, h0_, h1_, h2_, h3_⟩
                   have n0_ : Aside0 (Kd.R k37 37 w37 w.heap.size (fun k_ => some k_ ≠ (v216 : Value).ownBlock ∧ some k_ ≠ (.slice (some ad202) x3_1.length co9 : Value).ownBlock) v212 y211) := ⟨h0_⟩
                   have n1_ : Aside0 (Kd.R k37 37 w37 w.heap.size (fun k_ => some k_ ≠ (v212 : Value).ownBlock ∧ some k_ ≠ (.slice (some ad202) x3_1.length co9 : Value).ownBlock) v216 y215) := ⟨h1_⟩
                   have n2_ : Aside0 (Kd.R k37 37 w37 w.heap.size (fun k_ => some k_ ≠ (v212 : Value).ownBlock ∧ some k_ ≠ (v216 : Value).ownBlock) (.slice (some ad202) x3_1.length co9) x3_1) := ⟨h2_⟩
                   have n3_ : Aside0 (Below w.heap.size w w37) := ⟨h3_⟩
                   clear HO_3
                   clear HB
                   clear h0_ h1_ h2_ h3_
                   have HO213 := n0_
                   have HO217 := n1_
                   have HO_3 := n2_
                   have HB := n3_
                   clear n0_ n1_ n2_ n3_
                   have hHeld : w37.cell? (ad199.add ((x4_1).toNat * 8)) = some (.int .i64 ((rd_T37 l0 x4_1).f0)) ∧ w37.cell? ⟨(ad199.add ((x4_1).toNat * 8)).block, (ad199.add ((x4_1).toNat * 8)).off + 1, none⟩ = some (.int .i64 ((rd_T37 l0 x4_1).f1)) ∧ w37.cell? ⟨(ad199.add ((x4_1).toNat * 8)).block, (ad199.add ((x4_1).toNat * 8)).off + 2, none⟩ = some (.int .i64 ((rd_T37 l0 x4_1).f2.f0)) ∧ w37.cell? ⟨(ad199.add ((x4_1).toNat * 8)).block, (ad199.add ((x4_1).toNat * 8)).off + 3, none⟩ = some (.int .i64 ((rd_T37 l0 x4_1).f2.f1)) ∧ w37.cell? ⟨(ad199.add ((x4_1).toNat * 8)).block, (ad199.add ((x4_1).toNat * 8)).off + 4, none⟩ = some (.int .i64 ((rd_T37 l0 x4_1).f3)) ∧ w37.cell? ⟨(ad199.add ((x4_1).toNat * 8)).block, (ad199.add ((x4_1).toNat * 8)).off + 5, none⟩ = some (.int .i64 ((rd_T37 l0 x4_1).f4)) ∧ w37.cell? ⟨(ad199.add ((x4_1).toNat * 8)).block, (ad199.add ((x4_1).toNat * 8)).off + 6, none⟩ = some (.int .i64 ((rd_T37 l0 x4_1).f5.f0)) ∧ w37.cell? ⟨(ad199.add ((x4_1).toNat * 8)).block, (ad199.add ((x4_1).toNat * 8)).off + 7, none⟩ = some (.int .i64 ((rd_T37 l0 x4_1).f5.f1)) := hS_
                   obtain ⟨Ao39, co39, eo39⟩ := Kd.R_slice HO217.out
                   (first | subst eo39 | (injection eo39 with f1_ f2_ f3_; have f4_ := f1_.symm; have f5_ := f3_.symm; clear f1_ f2_ f3_; subst f4_; subst f5_))
                   refine norm_ (a' := ?_) ?_ ?_
                   rotate_left
                   ·simp only [putAll, Act.put, List.setIfInBounds_toArray, List.set_cons_zero, List.set_cons_succ]
                    rfl
                   refine one_ (i := 10) (N := some 47) #[o,o,o,o,o,o,o,o,o,o,o,o,o,o,z,z] rfl rfl (one_of HT_.out (by kernel_rfl)) (by decide) (fun K hK => ?_)
                   refine Kd.R_append_rows_step k37 (w0 := w) w.heap.size (by rfl) (.tmp 41) (.tmp 46) 24 37 (.agg #[(.int .i64 0), (.int .i64 0), (.int .i64 0), (.int .i64 0), (.int .i64 0), (.int .i64 0), (.int .i64 0), (.int .i64 0)]) 64 rfl Try.underlying24 info37 rfl (by decide) (by omega) v212 y211 y215 _ _ _ (fun k_ => some k_ ≠ (.slice (some ad202) x3_1.length co9 : Value).ownBlock ∧ some k_ ≠ (.slice Ao39 y215.length co39 : Value).ownBlock) (fun _ => False) rfl rfl ?aO ?aR (fun _ _ h => h) (fun _ h => h.elim) ?aF ?aB ?aS ?aL ?_
                   (case aR => repeat (first | exact (Kd.R_reads' HO217.out).2.2 | (with_reducible refine Kd.C_alloc ?_ _) | (with_reducible refine Kd.C_drewN ?_ _) | (with_reducible refine Kd.C_drew ?_)))
                   (case aB => exact (sB HB.out))
                   (case aF => exact (fun k_ hk => ⟨Kd.fresh' (Kd.R_lt (rB HO_3.out)) k_ hk, Kd.fresh' (Kd.R_lt (rB HO217.out)) k_ hk⟩))
                   (case aO => exact (by (with_reducible repeat (first | apply Kd.R_alloc | apply Kd.R_drewN | apply Kd.R_drew)); exact Kd.R_mono HO213.out (fun _ hk => ⟨hk.2, hk.1⟩)))
                   (case aS => exact (below_size (sB HB.out)))
                   (case aL => have := LMc23.out; omega)
                   intro v219 w38 ho hb hg hat
                   rw [← Ny218.out] at ho
                   have n0_ := am (Kd.R_after (ok := (fun k_ => some k_ ≠ (.slice Ao39 y215.length co39 : Value).ownBlock)) (by (with_reducible repeat (first | apply Kd.R_alloc | apply Kd.R_drewN | apply Kd.R_drew)); exact Kd.R_mono HO_3.out (fun _ hk => ⟨hk.2, hk.1⟩)) hg hat)
                   have n1_ := am (Kd.R_after (ok := (fun k_ => some k_ ≠ (.slice (some ad202) x3_1.length co9 : Value).ownBlock)) (by (with_reducible repeat (first | apply Kd.R_alloc | apply Kd.R_drewN | apply Kd.R_drew)); exact Kd.R_mono HO217.out (fun _ hk => ⟨hk.2, hk.1⟩)) hg hat)
                   have n2_ := am (hb)
                   have n3_ := am (ho)
                   clear HO_3
                   clear HO217
                   clear HB
                   clear HO213
                   have HO_3 := n0_
                   have HO217 := n1_
                   have HB := n2_
                   have HO220 := n3_
                   clear n0_ n1_ n2_ n3_
                   clear ho hb hg hat
                   refine hK.out _ _ ⟨(hc_ HB hw214_0), (hc_ HB hw214_1), (hc_ HB hw214_2), (hc_ HB hw214_3), (hc_ HB hw214_4), (hc_ HB hw214_5), (hc_ HB hw214_6), (hc_ HB hw214_7)⟩ (fun hHeld => ?_)
                   clear hK K
                   refine norm_ (a' := ?_) ?_ ?_
                   rotate_left
                   ·show Act.put _ (some 47) _ = _
                    simp only [Act.put, qa, qb, qc, i64_w, i32_w]
                    rfl
                   refine one_ (i := 14) (N := some 51) #[o,o,o,o,o,o,o,o,o,o,o,o,o,o,o,z] rfl rfl (one_of HT_.out (by kernel_rfl)) (by decide) (fun K hK => ?_)
                   refine Kd.R_append_rows_step k37 (w0 := w) w.heap.size (by rfl) (.tmp 47) (.tmp 50) 24 37 (.agg #[(.int .i64 0), (.int .i64 0), (.int .i64 0), (.int .i64 0), (.int .i64 0), (.int .i64 0), (.int .i64 0), (.int .i64 0)]) 64 rfl Try.underlying24 info37 rfl (by decide) (by omega) v219 y218 y221 _ _ _ (fun k_ => some k_ ≠ (.slice (some ad202) x3_1.length co9 : Value).ownBlock ∧ some k_ ≠ (.slice Ao39 y215.length co39 : Value).ownBlock) (fun _ => False) rfl rfl ?aO ?aR (fun _ _ h => h) (fun _ h => h.elim) ?aF ?aB ?aS ?aL ?_
                   (case aR => repeat (first | exact HR224.out _ _ HO_3.out | (with_reducible refine Kd.C_alloc ?_ _) | (with_reducible refine Kd.C_drewN ?_ _) | (with_reducible refine Kd.C_drew ?_)))
                   (case aB => exact (sB HB.out))
                   (case aF => exact (fun k_ hk => ⟨Kd.fresh' (Kd.R_lt (rB HO_3.out)) k_ hk, Kd.fresh' (Kd.R_lt (rB HO217.out)) k_ hk⟩))
                   (case aO => exact (rB HO220.out))
                   (case aS => exact (below_size (sB HB.out)))
                   (case aL => have := LMc26.out; omega)
                   intro v226 w40 ho hb hg hat
                   rw [← Ny225.out] at ho
                   have n0_ := am (Kd.R_after (ok := (fun k_ => some k_ ≠ (.slice Ao39 y215.length co39 : Value).ownBlock)) (rB HO_3.out) hg hat)
                   have n1_ := am (Kd.R_after (ok := (fun k_ => some k_ ≠ (.slice (some ad202) x3_1.length co9 : Value).ownBlock)) (rB HO217.out) hg hat)
                   have n2_ := am (hb)
                   have n3_ := am (ho)
                   clear HO_3
                   clear HO217
                   clear HB
                   clear HO220
                   have HO_3 := n0_
                   have HO217 := n1_
                   have HB := n2_
                   have HO227 := n3_
                   clear n0_ n1_ n2_ n3_
                   clear ho hb hg hat
                   refine hK.out _ _ ⟨(hc_ HB hw214_0), (hc_ HB hw214_1), (hc_ HB hw214_2), (hc_ HB hw214_3), (hc_ HB hw214_4), (hc_ HB hw214_5), (hc_ HB hw214_6), (hc_ HB hw214_7)⟩ (fun hHeld => ?_)
                   clear hK K
                   refine norm_ (a' := ?_) ?_ ?_
                   rotate_left
                   ·show Act.put _ (some 51) _ = _
                    simp only [Act.put, qa, qb, qc, i64_w, i32_w]
                    rfl
                   refine pure_ (i := 15) (N := some 3) (v := ?_) (a' := ?_) #[o,o,o,o,o,o,o,o,o,o,o,o,o,o,o,o] rfl rfl (any_of HT_.out (by kernel_rfl)) (fun _ _ _ h => h) (Or.inl ⟨by rfl, ?_⟩) ?_ ?_
                   rotate_left
                   ·intro w'
                    go_simp
                    with_reducible rfl
                   rotate_left
                   ·simp only [Act.put, qa, qb, qc, i64_w, i32_w]
                    rfl
                   refine done_ (done_of HT_.out (by kernel_rfl)) ?_
                   try go_wp2
                   go_roundg k2
                   case measure => have := HK1.out; have := HK2.out; omega
                   case rel => exact ⟨(y225), (wrap64 (x4_1 + 1)), (by first | rfl | (simp; done) | (simp [*]; done)), H', ⟨by have := HK1.out; have := HK2.out; omega⟩, ⟨by (with_reducible repeat (first | apply Kd.R_alloc | apply Kd.R_drewN | apply Kd.R_drew)); exact Kd.R_mono HO227.out (fun _ hk => trivial)⟩, ⟨sB HB.out⟩⟩
                  ·rw [if_neg c26] at H
                   exact absurd H (by simp)
                 ·rw [if_neg c23] at H
                  exact absurd H (by simp)
                ·rw [if_neg c22] at H
                 exact absurd H (by simp)
               ·rw [if_neg c21] at H
                exact absurd H (by simp)
              ·rw [if_neg c20] at H
               exact absurd H (by simp)
            ·rw [if_neg c15] at H
             exact absurd H (by simp)
           ·rw [if_neg c14] at H
            exact absurd H (by simp)
          ·rw [if_neg c12] at H
           exact absurd H (by simp)
         ·rw [if_neg c11] at H
          exact absurd H (by simp)
        ·rw [if_neg c10] at H
         have c10b0 : decide (0 < x5_2) = false := decide_eq_false c10
         clear c10
         obtain ⟨y228, hy228⟩ : ∃ y_ : List (S37), y_ = (([] : List (S37))) := ⟨_, rfl⟩
         replace H : (if 0 ≤ x5_2 then (if x5_2 ≤ (x3_1.length : Int) then ((some (x3_1.take (x5_2 : Int).toNat : List (S37))).bind fun y231 => (if y228.length + y231.length < 2199023255552 then ((some (y228 ++ y231 : List (S37))).bind fun y235 => (if 0 ≤ x4_1 then (if x4_1 < (l0.length : Int) then ((some (([(⟨(rd_T37 l0 x4_1).f0, (rd_T37 l0 x4_1).f1, (⟨(rd_T37 l0 x4_1).f2.f0, (rd_T37 l0 x4_1).f2.f1⟩ : S35), (rd_T37 l0 x4_1).f3, (rd_T37 l0 x4_1).f4, (⟨(rd_T37 l0 x4_1).f5.f0, (rd_T37 l0 x4_1).f5.f1⟩ : S26)⟩ : S37)] : List (S37)) : List (S37))).bind fun y239 => (if y235.length + y239.length < 2199023255552 then ((some (y235 ++ y239 : List (S37))).bind fun y242 => ((some (x3_1.drop (x5_2 : Int).toNat : List (S37))).bind fun y245 => (if y242.length + y245.length < 2199023255552 then (spec_SortRules.l0 k2 l0 (y242 ++ y245) (wrap64 (x4_1 + 1))) else (none)))) else (none))) else (none)) else (none))) else (none))) else (none)) else (none)) = some r := by first | (rw [hy228]; with_reducible exact H) | (have H2_ := (Option.bind_some _ _).symm.trans H; rw [hy228]; with_reducible exact H2_) | (have H2_ := (Option.bind_some _ _).symm.trans H; with_reducible exact H2_) | with_reducible exact H | (rw [hy228]; exact H) | exact H
         have Ny228 := Aside0.mk hy228
         clear hy228
         by_cases c41 : 0 ≤ x5_2
         ·rw [if_pos c41] at H
          have c41b0 := eq_true c41
          have c41b1 : decide (0 ≤ x5_2) = true := decide_eq_true c41
          clear c41
          by_cases c42 : x5_2 ≤ (x3_1.length : Int)
          ·rw [if_pos c42] at H
           have c42b0 := eq_true c42
           have c42b1 : decide (x5_2 ≤ (x3_1.length : Int)) = true := decide_eq_true c42
           clear c42
           obtain ⟨y231, hy231⟩ : ∃ y_ : List (S37), y_ = (x3_1.take (x5_2 : Int).toNat) := ⟨_, rfl⟩
           replace H : (if y228.length + y231.length < 2199023255552 then ((some (y228 ++ y231 : List (S37))).bind fun y235 => (if 0 ≤ x4_1 then (if x4_1 < (l0.length : Int) then ((some (([(⟨(rd_T37 l0 x4_1).f0, (rd_T37 l0 x4_1).f1, (⟨(rd_T37 l0 x4_1).f2.f0, (rd_T37 l0 x4_1).f2.f1⟩ : S35), (rd_T37 l0 x4_1).f3, (rd_T37 l0 x4_1).f4, (⟨(rd_T37 l0 x4_1).f5.f0, (rd_T37 l0 x4_1).f5.f1⟩ : S26)⟩ : S37)] : List (S37)) : List (S37))).bind fun y239 => (if y235.length + y239.length < 2199023255552 then ((some (y235 ++ y239 : List (S37))).bind fun y242 => ((some (x3_1.drop (x5_2 : Int).toNat : List (S37))).bind fun y245 => (if y242.length + y245.length < 2199023255552 then (spec_SortRules.l0 k2 l0 (y242 ++ y245) (wrap64 (x4_1 + 1))) else (none)))) else (none))) else (none)) else (none))) else (none)) = some r := by first | (rw [hy231]; with_reducible exact H) | (have H2_ := (Option.bind_some _ _).symm.trans H; rw [hy231]; with_reducible exact H2_) | (have H2_ := (Option.bind_some _ _).symm.trans H; with_reducible exact H2_) | with_reducible exact H | (rw [hy231]; exact H) | exact H
           have Ny231 := Aside0.mk hy231
           clear hy231
           by_cases c43 : y228.length + y231.length < 2199023255552
           ·rw [if_pos c43] at H
            have LMc43 := Aside0.mk c43
            clear c43
            obtain ⟨y235, hy235⟩ : ∃ y_ : List (S37), y_ = (y228 ++ y231) := ⟨_, rfl⟩
            replace H : (if 0 ≤ x4_1 then (if x4_1 < (l0.length : Int) then ((some (([(⟨(rd_T37 l0 x4_1).f0, (rd_T37 l0 x4_1).f1, (⟨(rd_T37 l0 x4_1).f2.f0, (rd_T37 l0 x4_1).f2.f1⟩ : S35), (rd_T37 l0 x4_1).f3, (rd_T37 l0 x4_1).f4, (⟨(rd_T37 l0 x4_1).f5.f0, (rd_T37 l0 x4_1).f5.f1⟩ : S26)⟩ : S37)] : List (S37)) : List (S37))).bind fun y239 => (if y235.length + y239.length < 2199023255552 then ((some (y235 ++ y239 : List (S37))).bind fun y242 => ((some (x3_1.drop (x5_2 : Int).toNat : List (S37))).bind fun y245 => (if y242.length + y245.length < 2199023255552 then (spec_SortRules.l0 k2 l0 (y242 ++ y245) (wrap64 (x4_1 + 1))) else (none)))) else (none))) else (none)) else (none)) = some r := by first | (rw [hy235]; with_reducible exact H) | (have H2_ := (Option.bind_some _ _).symm.trans H; rw [hy235]; with_reducible exact H2_) | (have H2_ := (Option.bind_some _ _).symm.trans H; with_reducible exact H2_) | with_reducible exact H | (rw [hy235]; exact H) | exact H
            have Ny235 := Aside0.mk hy235
            clear hy235
            by_cases c44 : 0 ≤ x4_1
            ·rw [if_pos c44] at H
             have c44b0 : decide (0 ≤ x4_1) = true := decide_eq_true c44
             clear c44
             by_cases c45 : x4_1 < (l0.length : Int)
             ·rw [if_pos c45] at H
              have c45b0 : decide (x4_1 < (l0.length : Int)) = true := decide_eq_true c45
              clear c45
              obtain ⟨y239, hy239⟩ : ∃ y_ : List (S37), y_ = (([(⟨(rd_T37 l0 x4_1).f0, (rd_T37 l0 x4_1).f1, (⟨(rd_T37 l0 x4_1).f2.f0, (rd_T37 l0 x4_1).f2.f1⟩ : S35), (rd_T37 l0 x4_1).f3, (rd_T37 l0 x4_1).f4, (⟨(rd_T37 l0 x4_1).f5.f0, (rd_T37 l0 x4_1).f5.f1⟩ : S26)⟩ : S37)] : List (S37))) := ⟨_, rfl⟩
              replace H : (if y235.length + y239.length < 2199023255552 then ((some (y235 ++ y239 : List (S37))).bind fun y242 => ((some (x3_1.drop (x5_2 : Int).toNat : List (S37))).bind fun y245 => (if y242.length + y245.length < 2199023255552 then (spec_SortRules.l0 k2 l0 (y242 ++ y245) (wrap64 (x4_1 + 1))) else (none)))) else (none)) = some r := by first | (rw [hy239]; with_reducible exact H) | (have H2_ := (Option.bind_some _ _).symm.trans H; rw [hy239]; with_reducible exact H2_) | (have H2_ := (Option.bind_some _ _).symm.trans H; with_reducible exact H2_) | with_reducible exact H | (rw [hy239]; exact H) | exact H
              have Ny239 := Aside0.mk hy239
              clear hy239
              by_cases c46 : y235.length + y239.length < 2199023255552
              ·rw [if_pos c46] at H
               have LMc46 := Aside0.mk c46
               clear c46
               obtain ⟨y242, hy242⟩ : ∃ y_ : List (S37), y_ = (y235 ++ y239) := ⟨_, rfl⟩
               replace H : ((some (x3_1.drop (x5_2 : Int).toNat : List (S37))).bind fun y245 => (if y242.length + y245.length < 2199023255552 then (spec_SortRules.l0 k2 l0 (y242 ++ y245) (wrap64 (x4_1 + 1))) else (none))) = some r := by first | (rw [hy242]; with_reducible exact H) | (have H2_ := (Option.bind_some _ _).symm.trans H; rw [hy242]; with_reducible exact H2_) | (have H2_ := (Option.bind_some _ _).symm.trans H; with_reducible exact H2_) | with_reducible exact H | (rw [hy242]; exact H) | exact H
               have Ny242 := Aside0.mk hy242
               clear hy242
               have c47b0 := eq_true (of_decide_eq_true (by first | (with_reducible assumption) | assumption) : 0 ≤ x5_2)
               have c48b0 := eq_true (of_decide_eq_true (by first | (with_reducible assumption) | assumption) : x5_2 ≤ (x3_1.length : Int))
               obtain ⟨y245, hy245⟩ : ∃ y_ : List (S37), y_ = (x3_1.drop (x5_2 : Int).toNat) := ⟨_, rfl⟩
               replace H : (if y242.length + y245.length < 2199023255552 then (spec_SortRules.l0 k2 l0 (y242 ++ y245) (wrap64 (x4_1 + 1))) else (none)) = some r := by first | (rw [hy245]; with_reducible exact H) | (have H2_ := (Option.bind_some _ _).symm.trans H; rw [hy245]; with_reducible exact H2_) | (have H2_ := (Option.bind_some _ _).symm.trans H; with_reducible exact H2_) | with_reducible exact H | (rw [hy245]; exact H) | exact H
               have Ny245 := Aside0.mk hy245
               clear hy245
               by_cases c49 : y242.length + y245.length < 2199023255552
               ·rw [if_pos c49] at H
                have LMc49 := Aside0.mk c49
                clear c49
                obtain ⟨y249, hy249⟩ : ∃ y_ : List (S37), y_ = (y242 ++ y245) := ⟨_, rfl⟩
                replace H : (spec_SortRules.l0 k2 l0 y249 (wrap64 (x4_1 + 1))) = some r := by first | (rw [hy249]; with_reducible exact H) | (have H2_ := (Option.bind_some _ _).symm.trans H; rw [hy249]; with_reducible exact H2_) | (have H2_ := (Option.bind_some _ _).symm.trans H; with_reducible exact H2_) | with_reducible exact H | (rw [hy249]; exact H) | exact H
                have Ny249 := Aside0.mk hy249
                clear hy249
                have H' := Aside0.mk H
                clear H
                try go_wp2
                replace HO_3 := am (Kd.R_drew HO_3.out)
                replace HB := am (below_drew1 HB.out)
                refine start_ (n := 14) (S := fun w' => True) (ds := []) #[z,z,z,z,z,z,z,z,z,z,z,z,z,z] (by kernel_rfl) rfl rfl trivial (fun hHeld => ?_); refine with_tabW spec_SortRules.tab7 spec_SortRules.bits7 (fun HT_ HW_ => ?_)
                generalize wr.drew = w50 at HO_3 HB hHeld ⊢
                refine pure_ (i := 0) (N := some 21) (v := ?_) (a' := ?_) #[o,z,z,z,z,z,z,z,z,z,z,z,z,z] rfl rfl (any_of HT_.out (by kernel_rfl)) (fun _ _ _ h => h) (Or.inl ⟨by rfl, ?_⟩) ?_ ?_
                rotate_left
                ·intro w'
                 go_simp
                 with_reducible rfl
                rotate_left
                ·simp only [Act.put, qa, qb, qc, i64_w, i32_w]
                 rfl
                refine pure_ (i := 1) (N := some 22) (v := ?_) (a' := ?_) #[o,o,z,z,z,z,z,z,z,z,z,z,z,z] rfl rfl (any_of HT_.out (by kernel_rfl)) (fun _ _ _ h => h) (Or.inl ⟨by rfl, ?_⟩) ?_ ?_
                rotate_left
                ·intro w'
                 go_simp
                 with_reducible rfl
                rotate_left
                ·simp only [Act.put, qa, qb, qc, i64_w, i32_w]
                 rfl
                refine pure_ (i := 2) (N := some 23) (v := ?_) (a' := ?_) #[o,o,o,z,z,z,z,z,z,z,z,z,z,z] rfl rfl (any_of HT_.out (by kernel_rfl)) (fun _ _ _ h => h) (Or.inl ⟨by rfl, ?_⟩) ?_ ?_
                rotate_left
                ·intro w'
                 go_simp
                 with_reducible rfl
                rotate_left
                ·simp only [Act.put, qa, qb, qc, i64_w, i32_w]
                 rfl
                refine pure_ (i := 3) (N := some 24) (v := undef) (a' := ?_) #[o,o,o,o,z,z,z,z,z,z,z,z,z,z] rfl rfl (any_of HT_.out (by kernel_rfl)) (fun _ _ _ h => h) (Or.inr ⟨by rfl, rfl⟩) ?_ ?_
                rotate_left
                ·simp only [Act.put, qa, qb, qc, i64_w, i32_w]
                 rfl
                refine pure_ (i := 4) (N := some 25) (v := undef) (a' := ?_) #[o,o,o,o,o,z,z,z,z,z,z,z,z,z] rfl rfl (any_of HT_.out (by kernel_rfl)) (fun _ _ _ h => h) (Or.inr ⟨by rfl, rfl⟩) ?_ ?_
                rotate_left
                ·simp only [Act.put, qa, qb, qc, i64_w, i32_w]
                 rfl
                refine pure_ (i := 5) (N := some 26) (v := undef) (a' := ?_) #[o,o,o,o,o,o,z,z,z,z,z,z,z,z] rfl rfl (any_of HT_.out (by kernel_rfl)) (fun _ _ _ h => h) (Or.inr ⟨by rfl, rfl⟩) ?_ ?_
                rotate_left
                ·simp only [Act.put, qa, qb, qc, i64_w, i32_w]
                 rfl
                refine pure_ (i := 6) (N := some 27) (v := undef) (a' := ?_) #[o,o,o,o,o,o,o,z,z,z,z,z,z,z] rfl rfl (any_of HT_.out (by kernel_rfl)) (fun _ _ _ h => h) (Or.inr ⟨by rfl, rfl⟩) ?_ ?_
                rotate_left
                ·simp only [Act.put, qa, qb, qc, i64_w, i32_w]
                 rfl
                refine pure_ (i := 7) (N := some 28) (v := undef) (a' := ?_) #[o,o,o,o,o,o,o,o,z,z,z,z,z,z] rfl rfl (any_of HT_.out (by kernel_rfl)) (fun _ _ _ h => h) (Or.inr ⟨by rfl, rfl⟩) ?_ ?_
                rotate_left
                ·simp only [Act.put, qa, qb, qc, i64_w, i32_w]
                 rfl
                refine pure_ (i := 8) (N := some 29) (v := undef) (a' := ?_) #[o,o,o,o,o,o,o,o,o,z,z,z,z,z] rfl rfl (any_of HT_.out (by kernel_rfl)) (fun _ _ _ h => h) (Or.inr ⟨by rfl, rfl⟩) ?_ ?_
                rotate_left
                ·simp only [Act.put, qa, qb, qc, i64_w, i32_w]
                 rfl
                refine pure_ (i := 9) (N := some 30) (v := undef) (a' := ?_) #[o,o,o,o,o,o,o,o,o,o,z,z,z,z] rfl rfl (any_of HT_.out (by kernel_rfl)) (fun _ _ _ h => h) (Or.inr ⟨by rfl, rfl⟩) ?_ ?_
                rotate_left
                ·simp only [Act.put, qa, qb, qc, i64_w, i32_w]
                 rfl
                refine pure_ (i := 10) (N := some 31) (v := undef) (a' := ?_) #[o,o,o,o,o,o,o,o,o,o,o,z,z,z] rfl rfl (any_of HT_.out (by kernel_rfl)) (fun _ _ _ h => h) (Or.inr ⟨by rfl, rfl⟩) ?_ ?_
                rotate_left
                ·simp only [Act.put, qa, qb, qc, i64_w, i32_w]
                 rfl
                refine pure_ (i := 11) (N := some 32) (v := undef) (a' := ?_) #[o,o,o,o,o,o,o,o,o,o,o,o,z,z] rfl rfl (any_of HT_.out (by kernel_rfl)) (fun _ _ _ h => h) (Or.inr ⟨by rfl, rfl⟩) ?_ ?_
                rotate_left
                ·simp only [Act.put, qa, qb, qc, i64_w, i32_w]
                 rfl
                refine pure_ (i := 12) (N := some 33) (v := undef) (a' := ?_) #[o,o,o,o,o,o,o,o,o,o,o,o,o,z] rfl rfl (any_of HT_.out (by kernel_rfl)) (fun _ _ _ h => h) (Or.inr ⟨by rfl, rfl⟩) ?_ ?_
                rotate_left
                ·simp only [Act.put, qa, qb, qc, i64_w, i32_w]
                 rfl
                refine pure_ (i := 13) (N := some 34) (v := ?_) (a' := ?_) #[o,o,o,o,o,o,o,o,o,o,o,o,o,o] rfl rfl (any_of HT_.out (by kernel_rfl)) (fun _ _ _ h => h) (Or.inl ⟨by rfl, ?_⟩) ?_ ?_
                rotate_left
                ·intro w'
                 go_simp
                 with_reducible rfl
                rotate_left
                ·simp only [Act.put, qa, qb, qc, i64_w, i32_w]
                 rfl
                refine done_ (done_of HT_.out (by kernel_rfl)) ?_
                try go_wp2
                replace HO_3 := am (Kd.R_drew HO_3.out)
                replace HB := am (below_drew1 HB.out)
                have q52 : (x5_2 : Int) ≤ ((x3_1.length : Int) : Int) := of_decide_eq_true (by first | (with_reducible assumption) | assumption)
                obtain ⟨i052, hi052, _, hsz52, _⟩ := info_parts info37
                have hroom52 : x3_1.length ≤ co9 := (Kd.R_reads' HO_3.out).2.1
                have hC52 : Kd.C k37 _ Ao9 x3_1.length x3_1 := (Kd.R_reads' HO_3.out).2.2
                have hcut52 := cut_to (P := Try.prog) 24 37 .i64 Try.underlying24 hi052 Ao9 x3_1.length co9 x5_2 (of_decide_eq_true (by first | (with_reducible assumption) | assumption)) q52 hroom52
                have hr52 := Kd.C_take (m := (x5_2 : Int).toNat) hC52 (by omega)
                have hy52 : y231.length = (x5_2 : Int).toNat := (by rw [Ny231.out, List.length_take]; omega)
                rw [← Ny231.out] at hr52
                rw [← hy52] at hcut52
                have HR234 : Aside0 (∀ (W_ : World) (ok_ : Nat → Prop), Kd.R k37 37 W_ w.heap.size ok_ (.slice Ao9 x3_1.length co9) x3_1 → Kd.C k37 W_ Ao9 y231.length y231) := ⟨fun W_ ok_ h_ => by have h2_ := Kd.C_take (m := (x5_2 : Int).toNat) (Kd.R_reads' h_).2.2 (by omega); rw [← Ny231.out] at h2_; exact h2_⟩
                have HC234 := am (show y231.length ≤ co9 from by omega)
                clear hr52 hC52 hroom52 hi052 hsz52
                have KY52 := Aside0.mk hy52
                clear hy52
                replace q52 := eq_true q52
                have p238 : 0 ≤ (x4_1 : Int) := of_decide_eq_true (by first | (with_reducible assumption) | assumption)
                have q238 : x4_1 < (l0.length : Int) := of_decide_eq_true (by first | (with_reducible assumption) | assumption)
                obtain ⟨ad238, e238, hx238_0, hx238_1, hx238_2, hx238_3, hx238_4, hx238_5, hx238_6, hx238_7⟩ := at_T37 HR0.out x4_1 p238 q238
                have hw238_7 := hx238_7
                have hw238_6 := hx238_6
                have hw238_5 := hx238_5
                have hw238_4 := hx238_4
                have hw238_3 := hx238_3
                have hw238_2 := hx238_2
                have hw238_1 := hx238_1
                have hw238_0 := hx238_0
                obtain rfl : ad199 = ad238 := (by injection e238)
                replace hx238_0 := hc_ HB hx238_0
                replace hx238_1 := hc_ HB hx238_1
                replace hx238_2 := hc_ HB hx238_2
                replace hx238_3 := hc_ HB hx238_3
                replace hx238_4 := hc_ HB hx238_4
                replace hx238_5 := hc_ HB hx238_5
                replace hx238_6 := hc_ HB hx238_6
                replace hx238_7 := hc_ HB hx238_7
                replace p238 := eq_true p238
                replace q238 := eq_true q238
                have q53 : (x5_2 : Int) ≤ ((x3_1.length : Int) : Int) := of_decide_eq_true (by first | (with_reducible assumption) | assumption)
                obtain ⟨i053, hi053, _, hsz53, _⟩ := info_parts info37
                have hroom53 : x3_1.length ≤ co9 := (Kd.R_reads' HO_3.out).2.1
                have hC53 : Kd.C k37 _ Ao9 x3_1.length x3_1 := (Kd.R_reads' HO_3.out).2.2
                have q053 : (0 : Int) ≤ (x5_2 : Int) := of_decide_eq_true (by first | (with_reducible assumption) | assumption)
                have hcut53 := cut_from (P := Try.prog) 24 37 .i64 Try.underlying24 hi053 8 hsz53 Ao9 x3_1.length co9 x5_2 q053 q53
                have hr53 := Kd.C_drop (m := (x5_2 : Int).toNat) (c := co9) hC53 (by omega) hroom53
                obtain ⟨A53, hA53⟩ : ∃ A1, A1 = (if co9 = (x5_2 : Int).toNat then Ao9 else (Ao9 : Option Addr).map (·.add ((x5_2 : Int).toNat * 8))) := ⟨_, rfl⟩
                obtain ⟨c53, hc53⟩ : ∃ c1, c1 = co9 - (x5_2 : Int).toNat := ⟨_, rfl⟩
                have hy53 : y245.length = x3_1.length - (x5_2 : Int).toNat := (by rw [Ny245.out, List.length_drop] <;> omega)
                rw [show (x3_1).drop (x5_2 : Int).toNat = y245 from Ny245.out.symm] at hr53
                replace hr53 : Kd.C k37 _ A53 y245.length y245 := (by rw [hA53]; exact hr53)
                rw [← hy53, ← hA53, ← hc53] at hcut53
                have HR248 : Aside0 (∀ (W_ : World) (ok_ : Nat → Prop), Kd.R k37 37 W_ w.heap.size ok_ (.slice Ao9 x3_1.length co9) x3_1 → Kd.C k37 W_ A53 y245.length y245) := ⟨fun W_ ok_ h_ => by have h2_ := Kd.C_drop (m := (x5_2 : Int).toNat) (c := co9) (Kd.R_reads' h_).2.2 (by omega) hroom53; rw [show (x3_1).drop (x5_2 : Int).toNat = y245 from Ny245.out.symm] at h2_; rw [hA53]; exact h2_⟩
                have HC248 := am (show y245.length ≤ c53 from by rw [hy53, hc53]; exact Nat.sub_le_sub_right hroom53 _)
                clear hr53 hC53 hroom53 hi053 hsz53 hc53
                have KY53 := Aside0.mk hy53
                have KA53 := Aside0.mk hA53
                clear hy53 hA53
                replace q53 := eq_true q53
                refine start_ (n := 16) (S := fun w' => w'.cell? (ad199.add ((x4_1).toNat * 8)) = some (.int .i64 ((rd_T37 l0 x4_1).f0)) ∧ w'.cell? ⟨(ad199.add ((x4_1).toNat * 8)).block, (ad199.add ((x4_1).toNat * 8)).off + 1, none⟩ = some (.int .i64 ((rd_T37 l0 x4_1).f1)) ∧ w'.cell? ⟨(ad199.add ((x4_1).toNat * 8)).block, (ad199.add ((x4_1).toNat * 8)).off + 2, none⟩ = some (.int .i64 ((rd_T37 l0 x4_1).f2.f0)) ∧ w'.cell? ⟨(ad199.add ((x4_1).toNat * 8)).block, (ad199.add ((x4_1).toNat * 8)).off + 3, none⟩ = some (.int .i64 ((rd_T37 l0 x4_1).f2.f1)) ∧ w'.cell? ⟨(ad199.add ((x4_1).toNat * 8)).block, (ad199.add ((x4_1).toNat * 8)).off + 4, none⟩ = some (.int .i64 ((rd_T37 l0 x4_1).f3)) ∧ w'.cell? ⟨(ad199.add ((x4_1).toNat * 8)).block, (ad199.add ((x4_1).toNat * 8)).off + 5, none⟩ = some (.int .i64 ((rd_T37 l0 x4_1).f4)) ∧ w'.cell? ⟨(ad199.add ((x4_1).toNat * 8)).block, (ad199.add ((x4_1).toNat * 8)).off + 6, none⟩ = some (.int .i64 ((rd_T37 l0 x4_1).f5.f0)) ∧ w'.cell? ⟨(ad199.add ((x4_1).toNat * 8)).block, (ad199.add ((x4_1).toNat * 8)).off + 7, none⟩ = some (.int .i64 ((rd_T37 l0 x4_1).f5.f1))) (ds := []) #[z,z,z,z,z,z,z,z,z,z,z,z,z,z,z,z] (by kernel_rfl) rfl rfl ⟨(hc_ HB hw238_0), (hc_ HB hw238_1), (hc_ HB hw238_2), (hc_ HB hw238_3), (hc_ HB hw238_4), (hc_ HB hw238_5), (hc_ HB hw238_6), (hc_ HB hw238_7)⟩ (fun hHeld => ?_); refine with_tabW spec_SortRules.tab9 spec_SortRules.bits9 (fun HT_ HW_ => ?_)
                generalize w50.drew = w51 at HO_3 HB hx238_0 hx238_1 hx238_2 hx238_3 hx238_4 hx238_5 hx238_6 hx238_7 hHeld ⊢
                refine pure_ (i := 1) (N := some 38) (v := ?_) (a' := ?_) #[z,o,z,z,z,z,z,z,z,z,z,z,z,z,z,z] rfl rfl (any_of HT_.out (by kernel_rfl)) (fun _ _ _ h => h) (Or.inl ⟨by rfl, ?_⟩) ?_ ?_
                rotate_left
                ·intro w'
                 go_simp
                 with_reducible rfl
                rotate_left
                ·simp only [Act.put, qa, qb, qc, i64_w, i32_w]
                 rfl
                refine pure_ (i := 2) (N := some 39) (v := ?_) (a' := ?_) #[z,o,o,z,z,z,z,z,z,z,z,z,z,z,z,z] rfl rfl (any_of HT_.out (by kernel_rfl)) (fun _ _ _ h => h) (Or.inl ⟨by rfl, ?_⟩) ?_ ?_
                rotate_left
                ·intro w'
                 go_simp
                 with_reducible rfl
                rotate_left
                ·simp only [Act.put, qa, qb, qc, i64_w, i32_w]
                 rfl
                refine pure_ (i := 3) (N := some 40) (v := ?_) (a' := ?_) #[z,o,o,o,z,z,z,z,z,z,z,z,z,z,z,z] rfl rfl (any_of HT_.out (by kernel_rfl)) (fun _ _ _ h => h) (Or.inl ⟨by rfl, ?_⟩) ?_ ?_
                rotate_left
                ·intro w'
                 go_simp
                 with_reducible rfl
                rotate_left
                ·simp only [Act.put, qa, qb, qc, i64_w, i32_w]
                 rfl
                refine pure_ (i := 5) (N := some 42) (v := ?_) (a' := ?_) #[z,o,o,o,z,o,z,z,z,z,z,z,z,z,z,z] rfl rfl (any_of HT_.out (by kernel_rfl)) (fun _ _ _ h => h) (Or.inl ⟨by rfl, ?_⟩) ?_ ?_
                rotate_left
                ·intro w'
                 go_simp
                 with_reducible rfl
                rotate_left
                ·simp only [Act.put, qa, qb, qc, i64_w, i32_w]
                 rfl
                refine pure_ (i := 6) (N := some 43) (v := ?_) (a' := ?_) #[z,o,o,o,z,o,o,z,z,z,z,z,z,z,z,z] rfl rfl (any_of HT_.out (by kernel_rfl)) (fun _ _ _ h => h) (Or.inl ⟨by rfl, ?_⟩) ?_ ?_
                rotate_left
                ·intro w'
                 go_simp
                 with_reducible rfl
                rotate_left
                ·simp only [Act.put, qa, qb, qc, i64_w, i32_w]
                 rfl
                refine pure_ (i := 7) (N := some 44) (v := ?_) (a' := ?_) #[z,o,o,o,z,o,o,o,z,z,z,z,z,z,z,z] rfl rfl (any_of HT_.out (by kernel_rfl)) (fun _ _ _ h => h) (Or.inl ⟨by rfl, ?_⟩) ?_ ?_
                rotate_left
                ·intro w'
                 go_simp
                 with_reducible rfl
                rotate_left
                ·simp only [Act.put, qa, qb, qc, i64_w, i32_w]
                 rfl
                refine pure_ (i := 11) (N := some 48) (v := ?_) (a' := ?_) #[z,o,o,o,z,o,o,o,z,z,z,o,z,z,z,z] rfl rfl (any_of HT_.out (by kernel_rfl)) (fun _ _ _ h => h) (Or.inl ⟨by rfl, ?_⟩) ?_ ?_
                rotate_left
                ·intro w'
                 go_simp
                 with_reducible rfl
                rotate_left
                ·simp only [Act.put, qa, qb, qc, i64_w, i32_w]
                 rfl
                refine pure_ (i := 12) (N := some 49) (v := ?_) (a' := ?_) #[z,o,o,o,z,o,o,o,z,z,z,o,o,z,z,z] rfl rfl (any_of HT_.out (by kernel_rfl)) (fun _ _ _ h => h) (Or.inl ⟨by rfl, ?_⟩) ?_ ?_
                rotate_left
                ·intro w'
                 go_simp
                 with_reducible rfl
                rotate_left
                ·simp only [Act.put, qa, qb, qc, i64_w, i32_w]
                 rfl
                refine pure_ (i := 13) (N := some 50) (v := ?_) (a' := ?_) #[z,o,o,o,z,o,o,o,z,z,z,o,o,o,z,z] rfl rfl (any_of HT_.out (by kernel_rfl)) (fun _ _ _ h => h) (Or.inl ⟨by rfl, ?_⟩) ?_ ?_
                rotate_left
                ·intro w'
                 go_simp
                 with_reducible rfl
                rotate_left
                ·simp only [Act.put, qa, qb, qc, i64_w, i32_w]
                 rfl
                refine take_ (i := 8) (N := some 45) (v := ?_) (a' := ?_) #[z,o,o,o,z,o,o,o,o,z,z,o,o,o,z,z] rfl rfl (take_ofW HT_.out HW_.out (by kernel_rfl)) (fun _ _ _ h => h) (Or.inl ⟨by rfl, ?_⟩) hHeld ?_ ?_
                rotate_left
                ·rintro w' ⟨s0, s1, s2, s3, s4, s5, s6, s7⟩
                 go_simp
                 with_reducible rfl
                rotate_left
                ·simp only [Act.put, qa, qb, qc, i64_w, i32_w]
                 rfl
                refine join_ (σ := Value × Value × Value) 3 #[o,o,o,o,o,o,o,o,o,o,z,o,o,o,z,z] (fun s_ => [(37, s_.1), (41, s_.2.1), (46, s_.2.2)]) (fun s_ w' => (w'.cell? (ad199.add ((x4_1).toNat * 8)) = some (.int .i64 ((rd_T37 l0 x4_1).f0)) ∧ w'.cell? ⟨(ad199.add ((x4_1).toNat * 8)).block, (ad199.add ((x4_1).toNat * 8)).off + 1, none⟩ = some (.int .i64 ((rd_T37 l0 x4_1).f1)) ∧ w'.cell? ⟨(ad199.add ((x4_1).toNat * 8)).block, (ad199.add ((x4_1).toNat * 8)).off + 2, none⟩ = some (.int .i64 ((rd_T37 l0 x4_1).f2.f0)) ∧ w'.cell? ⟨(ad199.add ((x4_1).toNat * 8)).block, (ad199.add ((x4_1).toNat * 8)).off + 3, none⟩ = some (.int .i64 ((rd_T37 l0 x4_1).f2.f1)) ∧ w'.cell? ⟨(ad199.add ((x4_1).toNat * 8)).block, (ad199.add ((x4_1).toNat * 8)).off + 4, none⟩ = some (.int .i64 ((rd_T37 l0 x4_1).f3)) ∧ w'.cell? ⟨(ad199.add ((x4_1).toNat * 8)).block, (ad199.add ((x4_1).toNat * 8)).off + 5, none⟩ = some (.int .i64 ((rd_T37 l0 x4_1).f4)) ∧ w'.cell? ⟨(ad199.add ((x4_1).toNat * 8)).block, (ad199.add ((x4_1).toNat * 8)).off + 6, none⟩ = some (.int .i64 ((rd_T37 l0 x4_1).f5.f0)) ∧ w'.cell? ⟨(ad199.add ((x4_1).toNat * 8)).block, (ad199.add ((x4_1).toNat * 8)).off + 7, none⟩ = some (.int .i64 ((rd_T37 l0 x4_1).f5.f1))) ∧ (Kd.R k37 37 w' w.heap.size (fun k_ => some k_ ≠ (s_.2.2 : Value).ownBlock ∧ some k_ ≠ (.slice Ao9 x3_1.length co9 : Value).ownBlock) s_.2.1 y235) ∧ (Kd.R k37 37 w' w.heap.size (fun k_ => some k_ ≠ (s_.2.1 : Value).ownBlock ∧ some k_ ≠ (.slice Ao9 x3_1.length co9 : Value).ownBlock) s_.2.2 y239) ∧ (Kd.R k37 37 w' w.heap.size (fun k_ => some k_ ≠ (s_.2.1 : Value).ownBlock ∧ some k_ ≠ (s_.2.2 : Value).ownBlock) (.slice Ao9 x3_1.length co9) x3_1) ∧ (Below w.heap.size w w')) ?_ ?_
                rotate_left
                ·intro hCont
                 refine two_ (i := 0) (j := 9) (Ni := some 37) (Nj := some 46) #[o,o,o,o,z,o,o,o,o,z,z,o,o,o,z,z] #[z,o,o,o,z,o,o,o,o,o,z,o,o,o,z,z] rfl rfl rfl rfl (two_of HT_.out (by kernel_rfl)) (by decide) (by decide) (fun K hK => ?_) (fun K hK => ?_)
                 ·skip
                  refine Kd.R_lit_step k37 _ 37 ?hg (N := 37) ?hd (xs := ([] : List (S37))) (inner := []) (ok := fun _ => True) (okp := fun _ => True) ?hr ?hp (fun _ hk => hk) trivial (Below.refl _ _) (Nat.le_refl _) (by simp) ?_; (case hd => rfl); (case hg => rfl); (case hr => first | (go_simp; done) | (go_simp; rfl)); (case hp => exact (Reps.none _ _))
                  intro v229 w54 ho55 hb hg_ hnew_
                  clear hg_ hnew_
                  (first | rw [← Ny228.out] at ho55 | (simp only [Int.reduceToNat] at ho55; rw [← Ny228.out] at ho55))
                  have n0_ := am (Kd.R_elder' (rB HO_3.out) (Kd.R_base ho55) hb)
                  have n1_ := am (Kd.R_lower (Kd.R_new' ho55 (Kd.R_lt (rB HO_3.out))) (below_size (sB HB.out)))
                  have n2_ := am (below_step (sB HB.out) hb)
                  clear HO_3
                  clear HB
                  have HO_3 := n0_
                  have HO230 := n1_
                  have HB := n2_
                  clear n0_ n1_ n2_
                  clear hb ho55
                  refine hK.out _ _ ⟨(hc_ HB hw238_0), (hc_ HB hw238_1), (hc_ HB hw238_2), (hc_ HB hw238_3), (hc_ HB hw238_4), (hc_ HB hw238_5), (hc_ HB hw238_6), (hc_ HB hw238_7)⟩ (fun hHeld => ?_)
                  clear hK K
                  refine norm_ (a' := ?_) ?_ ?_
                  rotate_left
                  ·show Act.put _ (some 37) _ = _
                   simp only [Act.put, qa, qb, qc, i64_w, i32_w]
                   rfl
                  refine two_ (i := 4) (j := 9) (Ni := some 41) (Nj := some 46) #[o,o,o,o,o,o,o,o,o,z,z,o,o,o,z,z] #[o,o,o,o,z,o,o,o,o,o,z,o,o,o,z,z] rfl rfl rfl rfl (two_of HT_.out (by kernel_rfl)) (by decide) (by decide) (fun K hK => ?_) (fun K hK => ?_)
                  ·skip
                   refine Kd.R_append_rows_step k37 (w0 := w) w.heap.size (by rfl) (.tmp 37) (.tmp 40) 24 37 (.agg #[(.int .i64 0), (.int .i64 0), (.int .i64 0), (.int .i64 0), (.int .i64 0), (.int .i64 0), (.int .i64 0), (.int .i64 0)]) 64 rfl Try.underlying24 info37 rfl (by decide) (by omega) v229 y228 y231 _ _ _ (fun k_ => some k_ ≠ (.slice Ao9 x3_1.length co9 : Value).ownBlock) (fun _ => False) rfl rfl ?aO ?aR (fun _ _ h => h) (fun _ h => h.elim) ?aF ?aB ?aS ?aL ?_
                   (case aR => repeat (first | exact HR234.out _ _ HO_3.out | (with_reducible refine Kd.C_alloc ?_ _) | (with_reducible refine Kd.C_drewN ?_ _) | (with_reducible refine Kd.C_drew ?_)))
                   (case aB => exact (sB HB.out))
                   (case aF => exact (fun k_ hk => Kd.fresh' (Kd.R_lt (rB HO_3.out)) k_ hk))
                   (case aO => exact (by (with_reducible repeat (first | apply Kd.R_alloc | apply Kd.R_drewN | apply Kd.R_drew)); exact Kd.R_mono HO230.out (fun _ hk => hk.2)))
                   (case aS => exact (below_size (sB HB.out)))
                   (case aL => have := LMc43.out; omega)
                   intro v236 w56 ho hb hg hat
                   rw [← Ny235.out] at ho
                   have n0_ := am (Kd.R_after (ok := (fun _ => True)) (rB HO_3.out) hg hat)
                   have n1_ := am (hb)
                   have n2_ := am (ho)
                   clear HO_3
                   clear HB
                   clear HO230
                   have HO_3 := n0_
                   have HB := n1_
                   have HO237 := n2_
                   clear n0_ n1_ n2_
                   clear ho hb hg hat
                   refine hK.out _ _ ⟨(hc_ HB hw238_0), (hc_ HB hw238_1), (hc_ HB hw238_2), (hc_ HB hw238_3), (hc_ HB hw238_4), (hc_ HB hw238_5), (hc_ HB hw238_6), (hc_ HB hw238_7)⟩ (fun hHeld => ?_)
                   clear hK K
                   refine norm_ (a' := ?_) ?_ ?_
                   rotate_left
                   ·show Act.put _ (some 41) _ = _
                    simp only [Act.put, qa, qb, qc, i64_w, i32_w]
                    rfl
                   refine one_ (i := 9) (N := some 46) #[o,o,o,o,o,o,o,o,o,o,z,o,o,o,z,z] rfl rfl (one_of HT_.out (by kernel_rfl)) (by decide) (fun K hK => ?_)
                   refine Kd.R_lit_step k37 _ 37 ?hg (N := 46) ?hd (xs := ([(⟨(rd_T37 l0 x4_1).f0, (rd_T37 l0 x4_1).f1, (⟨(rd_T37 l0 x4_1).f2.f0, (rd_T37 l0 x4_1).f2.f1⟩ : S35), (rd_T37 l0 x4_1).f3, (rd_T37 l0 x4_1).f4, (⟨(rd_T37 l0 x4_1).f5.f0, (rd_T37 l0 x4_1).f5.f1⟩ : S26)⟩ : S37)] : List (S37))) (inner := [.int .i64 ((rd_T37 l0 x4_1).f0), .int .i64 ((rd_T37 l0 x4_1).f1), .int .i64 ((rd_T37 l0 x4_1).f2.f0), .int .i64 ((rd_T37 l0 x4_1).f2.f1), .int .i64 ((rd_T37 l0 x4_1).f3), .int .i64 ((rd_T37 l0 x4_1).f4), .int .i64 ((rd_T37 l0 x4_1).f5.f0), .int .i64 ((rd_T37 l0 x4_1).f5.f1)]) (ok := fun _ => True) (okp := fun _ => True) ?hr ?hp (fun _ hk => hk) trivial (Below.refl _ _) (Nat.le_refl _) (by simp) ?_; (case hd => rfl); (case hg => rfl); (case hr => first | (go_simp; done) | (go_simp; rfl)); (case hp => exact (Reps.c8 (show Kd.M k37 _ _ _ (⟨(rd_T37 l0 x4_1).f0, (rd_T37 l0 x4_1).f1, (⟨(rd_T37 l0 x4_1).f2.f0, (rd_T37 l0 x4_1).f2.f1⟩ : S35), (rd_T37 l0 x4_1).f3, (rd_T37 l0 x4_1).f4, (⟨(rd_T37 l0 x4_1).f5.f0, (rd_T37 l0 x4_1).f5.f1⟩ : S26)⟩ : S37) [.int .i64 ((rd_T37 l0 x4_1).f0), .int .i64 ((rd_T37 l0 x4_1).f1), .int .i64 ((rd_T37 l0 x4_1).f2.f0), .int .i64 ((rd_T37 l0 x4_1).f2.f1), .int .i64 ((rd_T37 l0 x4_1).f3), .int .i64 ((rd_T37 l0 x4_1).f4), .int .i64 ((rd_T37 l0 x4_1).f5.f0), .int .i64 ((rd_T37 l0 x4_1).f5.f1)] from (k37_mkM _ _ _ (⟨(rd_T37 l0 x4_1).f0, (rd_T37 l0 x4_1).f1, (⟨(rd_T37 l0 x4_1).f2.f0, (rd_T37 l0 x4_1).f2.f1⟩ : S35), (rd_T37 l0 x4_1).f3, (rd_T37 l0 x4_1).f4, (⟨(rd_T37 l0 x4_1).f5.f0, (rd_T37 l0 x4_1).f5.f1⟩ : S26)⟩ : S37) )) (Reps.none _ _)))
                   intro v240 w57 ho58 hb hg_ hnew_
                   clear hg_ hnew_
                   (first | rw [← Ny239.out] at ho58 | (simp only [Int.reduceToNat] at ho58; rw [← Ny239.out] at ho58))
                   have n0_ := am (Kd.R_elder' (rB HO_3.out) (Kd.R_base ho58) hb)
                   have n1_ := am (Kd.R_elder' (rB HO237.out) (Kd.R_base ho58) hb)
                   have n2_ := am (Kd.R_lower (Kd.R_new' (Kd.R_new' ho58 (Kd.R_lt (rB HO_3.out))) (Kd.R_lt (rB HO237.out))) (below_size (sB HB.out)))
                   have n3_ := am (below_step (sB HB.out) hb)
                   clear HO_3
                   clear HO237
                   clear HB
                   have HO_3 := n0_
                   have HO237 := n1_
                   have HO241 := n2_
                   have HB := n3_
                   clear n0_ n1_ n2_ n3_
                   clear hb ho58
                   refine hK.out _ _ ⟨(hc_ HB hw238_0), (hc_ HB hw238_1), (hc_ HB hw238_2), (hc_ HB hw238_3), (hc_ HB hw238_4), (hc_ HB hw238_5), (hc_ HB hw238_6), (hc_ HB hw238_7)⟩ (fun hHeld => ?_)
                   clear hK K
                   refine norm_ (a' := ?_) ?_ ?_
                   rotate_left
                   ·show Act.put _ (some 46) _ = _
                    simp only [Act.put, qa, qb, qc, i64_w, i32_w]
                    rfl
                   exact norm_ (by simp only [putAll, Act.put, List.setIfInBounds_toArray, List.set_cons_zero, List.set_cons_succ]) (hCont (v229, v236, v240) _ ⟨hHeld, (by (with_reducible repeat (first | apply Kd.R_alloc | apply Kd.R_drewN | apply Kd.R_drew)); exact Kd.R_mono HO237.out (fun _ hk => ⟨hk.2, hk.1⟩)), (by (with_reducible repeat (first | apply Kd.R_alloc | apply Kd.R_drewN | apply Kd.R_drew)); exact Kd.R_mono HO241.out (fun _ hk => ⟨hk.2, hk.1.2⟩)), (by (with_reducible repeat (first | apply Kd.R_alloc | apply Kd.R_drewN | apply Kd.R_drew)); exact Kd.R_mono HO_3.out (fun _ hk => ⟨hk.1.2, hk.2⟩)), (sB HB.out)⟩)
                  ·skip
                   refine Kd.R_lit_step k37 _ 37 ?hg (N := 46) ?hd (xs := ([(⟨(rd_T37 l0 x4_1).f0, (rd_T37 l0 x4_1).f1, (⟨(rd_T37 l0 x4_1).f2.f0, (rd_T37 l0 x4_1).f2.f1⟩ : S35), (rd_T37 l0 x4_1).f3, (rd_T37 l0 x4_1).f4, (⟨(rd_T37 l0 x4_1).f5.f0, (rd_T37 l0 x4_1).f5.f1⟩ : S26)⟩ : S37)] : List (S37))) (inner := [.int .i64 ((rd_T37 l0 x4_1).f0), .int .i64 ((rd_T37 l0 x4_1).f1), .int .i64 ((rd_T37 l0 x4_1).f2.f0), .int .i64 ((rd_T37 l0 x4_1).f2.f1), .int .i64 ((rd_T37 l0 x4_1).f3), .int .i64 ((rd_T37 l0 x4_1).f4), .int .i64 ((rd_T37 l0 x4_1).f5.f0), .int .i64 ((rd_T37 l0 x4_1).f5.f1)]) (ok := fun _ => True) (okp := fun _ => True) ?hr ?hp (fun _ hk => hk) trivial (Below.refl _ _) (Nat.le_refl _) (by simp) ?_; (case hd => rfl); (case hg => rfl); (case hr => first | (go_simp; done) | (go_simp; rfl)); (case hp => exact (Reps.c8 (show Kd.M k37 _ _ _ (⟨(rd_T37 l0 x4_1).f0, (rd_T37 l0 x4_1).f1, (⟨(rd_T37 l0 x4_1).f2.f0, (rd_T37 l0 x4_1).f2.f1⟩ : S35), (rd_T37 l0 x4_1).f3, (rd_T37 l0 x4_1).f4, (⟨(rd_T37 l0 x4_1).f5.f0, (rd_T37 l0 x4_1).f5.f1⟩ : S26)⟩ : S37) [.int .i64 ((rd_T37 l0 x4_1).f0), .int .i64 ((rd_T37 l0 x4_1).f1), .int .i64 ((rd_T37 l0 x4_1).f2.f0), .int .i64 ((rd_T37 l0 x4_1).f2.f1), .int .i64 ((rd_T37 l0 x4_1).f3), .int .i64 ((rd_T37 l0 x4_1).f4), .int .i64 ((rd_T37 l0 x4_1).f5.f0), .int .i64 ((rd_T37 l0 x4_1).f5.f1)] from (k37_mkM _ _ _ (⟨(rd_T37 l0 x4_1).f0, (rd_T37 l0 x4_1).f1, (⟨(rd_T37 l0 x4_1).f2.f0, (rd_T37 l0 x4_1).f2.f1⟩ : S35), (rd_T37 l0 x4_1).f3, (rd_T37 l0 x4_1).f4, (⟨(rd_T37 l0 x4_1).f5.f0, (rd_T37 l0 x4_1).f5.f1⟩ : S26)⟩ : S37) )) (Reps.none _ _)))
                   intro v240 w56 ho57 hb hg_ hnew_
                   clear hg_ hnew_
                   (first | rw [← Ny239.out] at ho57 | (simp only [Int.reduceToNat] at ho57; rw [← Ny239.out] at ho57))
                   have n0_ := am (Kd.R_elder' (rB HO_3.out) (Kd.R_base ho57) hb)
                   have n1_ := am (Kd.R_elder' (rB HO230.out) (Kd.R_base ho57) hb)
                   have n2_ := am (Kd.R_lower (Kd.R_new' (Kd.R_new' ho57 (Kd.R_lt (rB HO_3.out))) (Kd.R_lt (rB HO230.out))) (below_size (sB HB.out)))
                   have n3_ := am (below_step (sB HB.out) hb)
                   clear HO_3
                   clear HO230
                   clear HB
                   have HO_3 := n0_
                   have HO230 := n1_
                   have HO241 := n2_
                   have HB := n3_
                   clear n0_ n1_ n2_ n3_
                   clear hb ho57
                   refine hK.out _ _ ⟨(hc_ HB hw238_0), (hc_ HB hw238_1), (hc_ HB hw238_2), (hc_ HB hw238_3), (hc_ HB hw238_4), (hc_ HB hw238_5), (hc_ HB hw238_6), (hc_ HB hw238_7)⟩ (fun hHeld => ?_)
                   clear hK K
                   refine norm_ (a' := ?_) ?_ ?_
                   rotate_left
                   ·show Act.put _ (some 46) _ = _
                    simp only [Act.put, qa, qb, qc, i64_w, i32_w]
                    rfl
                   refine one_ (i := 4) (N := some 41) #[o,o,o,o,o,o,o,o,o,o,z,o,o,o,z,z] rfl rfl (one_of HT_.out (by kernel_rfl)) (by decide) (fun K hK => ?_)
                   refine Kd.R_append_rows_step k37 (w0 := w) w.heap.size (by rfl) (.tmp 37) (.tmp 40) 24 37 (.agg #[(.int .i64 0), (.int .i64 0), (.int .i64 0), (.int .i64 0), (.int .i64 0), (.int .i64 0), (.int .i64 0), (.int .i64 0)]) 64 rfl Try.underlying24 info37 rfl (by decide) (by omega) v229 y228 y231 _ _ _ (fun k_ => some k_ ≠ (.slice Ao9 x3_1.length co9 : Value).ownBlock ∧ some k_ ≠ (v240 : Value).ownBlock) (fun _ => False) rfl rfl ?aO ?aR (fun _ _ h => h) (fun _ h => h.elim) ?aF ?aB ?aS ?aL ?_
                   (case aR => repeat (first | exact HR234.out _ _ HO_3.out | (with_reducible refine Kd.C_alloc ?_ _) | (with_reducible refine Kd.C_drewN ?_ _) | (with_reducible refine Kd.C_drew ?_)))
                   (case aB => exact (sB HB.out))
                   (case aF => exact (fun k_ hk => ⟨Kd.fresh' (Kd.R_lt (rB HO_3.out)) k_ hk, Kd.fresh' (Kd.R_lt (rB HO241.out)) k_ hk⟩))
                   (case aO => exact (by (with_reducible repeat (first | apply Kd.R_alloc | apply Kd.R_drewN | apply Kd.R_drew)); exact Kd.R_mono HO230.out (fun _ hk => ⟨hk.1.2, hk.2⟩)))
                   (case aS => exact (below_size (sB HB.out)))
                   (case aL => have := LMc43.out; omega)
                   intro v236 w58 ho hb hg hat
                   rw [← Ny235.out] at ho
                   have n0_ := am (Kd.R_after (ok := (fun k_ => some k_ ≠ (v240 : Value).ownBlock)) (by (with_reducible repeat (first | apply Kd.R_alloc | apply Kd.R_drewN | apply Kd.R_drew)); exact Kd.R_mono HO_3.out (fun _ hk => ⟨hk.2, hk.1.2⟩)) hg hat)
                   have n1_ := am (Kd.R_after (ok := (fun k_ => some k_ ≠ (.slice Ao9 x3_1.length co9 : Value).ownBlock)) (by (with_reducible repeat (first | apply Kd.R_alloc | apply Kd.R_drewN | apply Kd.R_drew)); exact Kd.R_mono HO241.out (fun _ hk => ⟨hk.1.2, hk.2⟩)) hg hat)
                   have n2_ := am (hb)
                   have n3_ := am (ho)
                   clear HO_3
                   clear HO241
                   clear HB
                   clear HO230
                   have HO_3 := n0_
                   have HO241 := n1_
                   have HB := n2_
                   have HO237 := n3_
                   clear n0_ n1_ n2_ n3_
                   clear ho hb hg hat
                   refine hK.out _ _ ⟨(hc_ HB hw238_0), (hc_ HB hw238_1), (hc_ HB hw238_2), (hc_ HB hw238_3), (hc_ HB hw238_4), (hc_ HB hw238_5), (hc_ HB hw238_6), (hc_ HB hw238_7)⟩ (fun hHeld => ?_)
                   clear hK K
                   refine norm_ (a' := ?_) ?_ ?_
                   rotate_left
                   ·show Act.put _ (some 41) _ = _
                    simp only [Act.put, qa, qb, qc, i64_w, i32_w]
                    rfl
                   exact norm_ (by simp only [putAll, Act.put, List.setIfInBounds_toArray, List.set_cons_zero, List.set_cons_succ]) (hCont (v229, v236, v240) _ ⟨hHeld, (by (with_reducible repeat (first | apply Kd.R_alloc | apply Kd.R_drewN | apply Kd.R_drew)); exact Kd.R_mono HO237.out (fun _ hk => ⟨hk.2, hk.1⟩)), (by (with_reducible repeat (first | apply Kd.R_alloc | apply Kd.R_drewN | apply Kd.R_drew)); exact Kd.R_mono HO241.out (fun _ hk => ⟨hk.2, hk.1⟩)), (by (with_reducible repeat (first | apply Kd.R_alloc | apply Kd.R_drewN | apply Kd.R_drew)); exact Kd.R_mono HO_3.out (fun _ hk => ⟨hk.2, hk.1⟩)), (sB HB.out)⟩)
                 ·skip
                  refine Kd.R_lit_step k37 _ 37 ?hg (N := 46) ?hd (xs := ([(⟨(rd_T37 l0 x4_1).f0, (rd_T37 l0 x4_1).f1, (⟨(rd_T37 l0 x4_1).f2.f0, (rd_T37 l0 x4_1).f2.f1⟩ : S35), (rd_T37 l0 x4_1).f3, (rd_T37 l0 x4_1).f4, (⟨(rd_T37 l0 x4_1).f5.f0, (rd_T37 l0 x4_1).f5.f1⟩ : S26)⟩ : S37)] : List (S37))) (inner := [.int .i64 ((rd_T37 l0 x4_1).f0), .int .i64 ((rd_T37 l0 x4_1).f1), .int .i64 ((rd_T37 l0 x4_1).f2.f0), .int .i64 ((rd_T37 l0 x4_1).f2.f1), .int .i64 ((rd_T37 l0 x4_1).f3), .int .i64 ((rd_T37 l0 x4_1).f4), .int .i64 ((rd_T37 l0 x4_1).f5.f0), .int .i64 ((rd_T37 l0 x4_1).f5.f1)]) (ok := fun _ => True) (okp := fun _ => True) ?hr ?hp (fun _ hk => hk) trivial (Below.refl _ _) (Nat.le_refl _) (by simp) ?_; (case hd => rfl); (case hg => rfl); (case hr => first | (go_simp; done) | (go_simp; rfl)); (case hp => exact (Reps.c8 (show Kd.M k37 _ _ _ (⟨(rd_T37 l0 x4_1).f0, (rd_T37 l0 x4_1).f1, (⟨(rd_T37 l0 x4_1).f2.f0, (rd_T37 l0 x4_1).f2.f1⟩ : S35), (rd_T37 l0 x4_1).f3, (rd_T37 l0 x4_1).f4, (⟨(rd_T37 l0 x4_1).f5.f0, (rd_T37 l0 x4_1).f5.f1⟩ : S26)⟩ : S37) [.int .i64 ((rd_T37 l0 x4_1).f0), .int .i64 ((rd_T37 l0 x4_1).f1), .int .i64 ((rd_T37 l0 x4_1).f2.f0), .int .i64 ((rd_T37 l0 x4_1).f2.f1), .int .i64 ((rd_T37 l0 x4_1).f3), .int .i64 ((rd_T37 l0 x4_1).f4), .int .i64 ((rd_T37 l0 x4_1).f5.f0), .int .i64 ((rd_T37 l0 x4_1).f5.f1)] from (k37_mkM _ _ _ (⟨(rd_T37 l0 x4_1).f0, (rd_T37 l0 x4_1).f1, (⟨(rd_T37 l0 x4_1).f2.f0, (rd_T37 l0 x4_1).f2.f1⟩ : S35), (rd_T37 l0 x4_1).f3, (rd_T37 l0 x4_1).f4, (⟨(rd_T37 l0 x4_1).f5.f0, (rd_T37 l0 x4_1).f5.f1⟩ : S26)⟩ : S37) )) (Reps.none _ _)))
                  intro v240 w54 ho55 hb hg_ hnew_
                  clear hg_ hnew_
                  (first | rw [← Ny239.out] at ho55 | (simp only [Int.reduceToNat] at ho55; rw [← Ny239.out] at ho55))
                  have n0_ := am (Kd.R_elder' (rB HO_3.out) (Kd.R_base ho55) hb)
                  have n1_ := am (Kd.R_lower (Kd.R_new' ho55 (Kd.R_lt (rB HO_3.out))) (below_size (sB HB.out)))
                  have n2_ := am (below_step (sB HB.out) hb)
                  clear HO_3
                  clear HB
                  have HO_3 := n0_
                  have HO241 := n1_
                  have HB := n2_
                  clear n0_ n1_ n2_
                  clear hb ho55
                  refine hK.out _ _ ⟨(hc_ HB hw238_0), (hc_ HB hw238_1), (hc_ HB hw238_2), (hc_ HB hw238_3), (hc_ HB hw238_4), (hc_ HB hw238_5), (hc_ HB hw238_6), (hc_ HB hw238_7)⟩ (fun hHeld => ?_)
                  clear hK K
                  refine norm_ (a' := ?_) ?_ ?_
                  rotate_left
                  ·show Act.put _ (some 46) _ = _
                   simp only [Act.put, qa, qb, qc, i64_w, i32_w]
                   rfl
                  refine one_ (i := 0) (N := some 37) #[o,o,o,o,z,o,o,o,o,o,z,o,o,o,z,z] rfl rfl (one_of HT_.out (by kernel_rfl)) (by decide) (fun K hK => ?_)
                  refine Kd.R_lit_step k37 _ 37 ?hg (N := 37) ?hd (xs := ([] : List (S37))) (inner := []) (ok := fun _ => True) (okp := fun _ => True) ?hr ?hp (fun _ hk => hk) trivial (Below.refl _ _) (Nat.le_refl _) (by simp) ?_; (case hd => rfl); (case hg => rfl); (case hr => first | (go_simp; done) | (go_simp; rfl)); (case hp => exact (Reps.none _ _))
                  intro v229 w56 ho57 hb hg_ hnew_
                  clear hg_ hnew_
                  (first | rw [← Ny228.out] at ho57 | (simp only [Int.reduceToNat] at ho57; rw [← Ny228.out] at ho57))
                  have n0_ := am (Kd.R_elder' (rB HO_3.out) (Kd.R_base ho57) hb)
                  have n1_ := am (Kd.R_elder' (rB HO241.out) (Kd.R_base ho57) hb)
                  have n2_ := am (Kd.R_lower (Kd.R_new' (Kd.R_new' ho57 (Kd.R_lt (rB HO_3.out))) (Kd.R_lt (rB HO241.out))) (below_size (sB HB.out)))
                  have n3_ := am (below_step (sB HB.out) hb)
                  clear HO_3
                  clear HO241
                  clear HB
                  have HO_3 := n0_
                  have HO241 := n1_
                  have HO230 := n2_
                  have HB := n3_
                  clear n0_ n1_ n2_ n3_
                  clear hb ho57
                  refine hK.out _ _ ⟨(hc_ HB hw238_0), (hc_ HB hw238_1), (hc_ HB hw238_2), (hc_ HB hw238_3), (hc_ HB hw238_4), (hc_ HB hw238_5), (hc_ HB hw238_6), (hc_ HB hw238_7)⟩ (fun hHeld => ?_)
                  clear hK K
                  refine norm_ (a' := ?_) ?_ ?_
                  rotate_left
                  ·show Act.put _ (some 37) _ = _
                   simp only [Act.put, qa, qb, qc, i64_w, i32_w]
                   rfl
                  refine one_ (i := 4) (N := some 41) #[o,o,o,o,o,o,o,o,o,o,z,o,o,o,z,z] rfl rfl (one_of HT_.out (by kernel_rfl)) (by decide) (fun K hK => ?_)
                  refine Kd.R_append_rows_step k37 (w0 := w) w.heap.size (by rfl) (.tmp 37) (.tmp 40) 24 37 (.agg #[(.int .i64 0), (.int .i64 0), (.int .i64 0), (.int .i64 0), (.int .i64 0), (.int .i64 0), (.int .i64 0), (.int .i64 0)]) 64 rfl Try.underlying24 info37 rfl (by decide) (by omega) v229 y228 y231 _ _ _ (fun k_ => some k_ ≠ (.slice Ao9 x3_1.length co9 : Value).ownBlock ∧ some k_ ≠ (v240 : Value).ownBlock) (fun _ => False) rfl rfl ?aO ?aR (fun _ _ h => h) (fun _ h => h.elim) ?aF ?aB ?aS ?aL ?_
                  (case aR => repeat (first | exact HR234.out _ _ HO_3.out | (with_reducible refine Kd.C_alloc ?_ _) | (with_reducible refine Kd.C_drewN ?_ _) | (with_reducible refine Kd.C_drew ?_)))
                  (case aB => exact (sB HB.out))
                  (case aF => exact (fun k_ hk => ⟨Kd.fresh' (Kd.R_lt (rB HO_3.out)) k_ hk, Kd.fresh' (Kd.R_lt (rB HO241.out)) k_ hk⟩))
                  (case aO => exact (by (with_reducible repeat (first | apply Kd.R_alloc | apply Kd.R_drewN | apply Kd.R_drew)); exact Kd.R_mono HO230.out (fun _ hk => ⟨hk.1.2, hk.2⟩)))
                  (case aS => exact (below_size (sB HB.out)))
                  (case aL => have := LMc43.out; omega)
                  intro v236 w58 ho hb hg hat
                  rw [← Ny235.out] at ho
                  have n0_ := am (Kd.R_after (ok := (fun k_ => some k_ ≠ (v240 : Value).ownBlock)) (by (with_reducible repeat (first | apply Kd.R_alloc | apply Kd.R_drewN | apply Kd.R_drew)); exact Kd.R_mono HO_3.out (fun _ hk => ⟨hk.1.2, hk.2⟩)) hg hat)
                  have n1_ := am (Kd.R_after (ok := (fun k_ => some k_ ≠ (.slice Ao9 x3_1.length co9 : Value).ownBlock)) (by (with_reducible repeat (first | apply Kd.R_alloc | apply Kd.R_drewN | apply Kd.R_drew)); exact Kd.R_mono HO241.out (fun _ hk => ⟨hk.1.2, hk.2⟩)) hg hat)
                  have n2_ := am (hb)
                  have n3_ := am (ho)
                  clear HO_3
                  clear HO241
                  clear HB
                  clear HO230
                  have HO_3 := n0_
                  have HO241 := n1_
                  have HB := n2_
                  have HO237 := n3_
                  clear n0_ n1_ n2_ n3_
                  clear ho hb hg hat
                  refine hK.out _ _ ⟨(hc_ HB hw238_0), (hc_ HB hw238_1), (hc_ HB hw238_2), (hc_ HB hw238_3), (hc_ HB hw238_4), (hc_ HB hw238_5), (hc_ HB hw238_6), (hc_ HB hw238_7)⟩ (fun hHeld => ?_)
                  clear hK K
                  refine norm_ (a' := ?_) ?_ ?_
                  rotate_left
                  ·show Act.put _ (some 41) _ = _
                   simp only [Act.put, qa, qb, qc, i64_w, i32_w]
                   rfl
                  exact norm_ (by simp only [putAll, Act.put, List.setIfInBounds_toArray, List.set_cons_zero, List.set_cons_succ]) (hCont (v229, v236, v240) _ ⟨hHeld, (by (with_reducible repeat (first | apply Kd.R_alloc | apply Kd.R_drewN | apply Kd.R_drew)); exact Kd.R_mono HO237.out (fun _ hk => ⟨hk.2, hk.1⟩)), (by (with_reducible repeat (first | apply Kd.R_alloc | apply Kd.R_drewN | apply Kd.R_drew)); exact Kd.R_mono HO241.out (fun _ hk => ⟨hk.2, hk.1⟩)), (by (with_reducible repeat (first | apply Kd.R_alloc | apply Kd.R_drewN | apply Kd.R_drew)); exact Kd.R_mono HO_3.out (fun _ hk => ⟨hk.2, hk.1⟩)), (sB HB.out)⟩)
                rintro ⟨v229, v236, v240⟩ w59 ⟨hS_, h0_, h1_, h2_, h3_⟩
                have n0_ : Aside0 (Kd.R k37 37 w59 w.heap.size (fun k_ => some k_ ≠ (v240 : Value).ownBlock ∧ some k_ ≠ (.slice Ao9 x3_1.length co9 : Value).ownBlock) v236 y235) := ⟨h0_⟩
                have n1_ : Aside0 (Kd.R k37 37 w59 w.heap.size (fun k_ => some k_ ≠ (v236 : Value).ownBlock ∧ some k_ ≠ (.slice Ao9 x3_1.length co9 : Value).ownBlock) v240 y239) := ⟨h1_⟩
                have n2_ : Aside0 (Kd.R k37 37 w59 w.heap.size (fun k_ => some k_ ≠ (v236 : Value).ownBlock ∧ some k_ ≠ (v240 : Value).ownBlock) (.slice Ao9 x3_1.length co9) x3_1) := ⟨h2_⟩
                have n3_ : Aside0 (Below w.heap.size w w59) := ⟨h3_⟩
                clear HO_3
                clear HB
                clear h0_ h1_ h2_ h3_
                have HO237 := n0_
                have HO241 := n1_
                have HO_3 := n2_
                have HB := n3_
                clear n0_ n1_ n2_ n3_
                have hHeld : w59.cell? (ad199.add ((x4_1).toNat * 8)) = some (.int .i64 ((rd_T37 l0 x4_1).f0)) ∧ w59.cell? ⟨(ad199.add ((x4_1).toNat * 8)).block, (ad199.add ((x4_1).toNat * 8)).off + 1, none⟩ = some (.int .i64 ((rd_T37 l0 x4_1).f1)) ∧ w59.cell? ⟨(ad199.add ((x4_1).toNat * 8)).block, (ad199.add ((x4_1).toNat * 8)).off + 2, none⟩ = some (.int .i64 ((rd_T37 l0 x4_1).f2.f0)) ∧ w59.cell? ⟨(ad199.add ((x4_1).toNat * 8)).block, (ad199.add ((x4_1).toNat * 8)).off + 3, none⟩ = some (.int .i64 ((rd_T37 l0 x4_1).f2.f1)) ∧ w59.cell? ⟨(ad199.add ((x4_1).toNat * 8)).block, (ad199.add ((x4_1).toNat * 8)).off + 4, none⟩ = some (.int .i64 ((rd_T37 l0 x4_1).f3)) ∧ w59.cell? ⟨(ad199.add ((x4_1).toNat * 8)).block, (ad199.add ((x4_1).toNat * 8)).off + 5, none⟩ = some (.int .i64 ((rd_T37 l0 x4_1).f4)) ∧ w59.cell? ⟨(ad199.add ((x4_1).toNat * 8)).block, (ad199.add ((x4_1).toNat * 8)).off + 6, none⟩ = some (.int .i64 ((rd_T37 l0 x4_1).f5.f0)) ∧ w59.cell? ⟨(ad199.add ((x4_1).toNat * 8)).block, (ad199.add ((x4_1).toNat * 8)).off + 7, none⟩ = some (.int .i64 ((rd_T37 l0 x4_1).f5.f1)) := hS_
                obtain ⟨Ao61, co61, eo61⟩ := Kd.R_slice HO241.out
                (first | subst eo61 | (injection eo61 with f1_ f2_ f3_; have f4_ := f1_.symm; have f5_ := f3_.symm; clear f1_ f2_ f3_; subst f4_; subst f5_))
                refine norm_ (a' := ?_) ?_ ?_
                rotate_left
                ·simp only [putAll, Act.put, List.setIfInBounds_toArray, List.set_cons_zero, List.set_cons_succ]
                 rfl
                refine one_ (i := 10) (N := some 47) #[o,o,o,o,o,o,o,o,o,o,o,o,o,o,z,z] rfl rfl (one_of HT_.out (by kernel_rfl)) (by decide) (fun K hK => ?_)
                refine Kd.R_append_rows_step k37 (w0 := w) w.heap.size (by rfl) (.tmp 41) (.tmp 46) 24 37 (.agg #[(.int .i64 0), (.int .i64 0), (.int .i64 0), (.int .i64 0), (.int .i64 0), (.int .i64 0), (.int .i64 0), (.int .i64 0)]) 64 rfl Try.underlying24 info37 rfl (by decide) (by omega) v236 y235 y239 _ _ _ (fun k_ => some k_ ≠ (.slice Ao9 x3_1.length co9 : Value).ownBlock ∧ some k_ ≠ (.slice Ao61 y239.length co61 : Value).ownBlock) (fun _ => False) rfl rfl ?aO ?aR (fun _ _ h => h) (fun _ h => h.elim) ?aF ?aB ?aS ?aL ?_
                (case aR => repeat (first | exact (Kd.R_reads' HO241.out).2.2 | (with_reducible refine Kd.C_alloc ?_ _) | (with_reducible refine Kd.C_drewN ?_ _) | (with_reducible refine Kd.C_drew ?_)))
                (case aB => exact (sB HB.out))
                (case aF => exact (fun k_ hk => ⟨Kd.fresh' (Kd.R_lt (rB HO_3.out)) k_ hk, Kd.fresh' (Kd.R_lt (rB HO241.out)) k_ hk⟩))
                (case aO => exact (by (with_reducible repeat (first | apply Kd.R_alloc | apply Kd.R_drewN | apply Kd.R_drew)); exact Kd.R_mono HO237.out (fun _ hk => ⟨hk.2, hk.1⟩)))
                (case aS => exact (below_size (sB HB.out)))
                (case aL => have := LMc46.out; omega)
                intro v243 w60 ho hb hg hat
                rw [← Ny242.out] at ho
                have n0_ := am (Kd.R_after (ok := (fun k_ => some k_ ≠ (.slice Ao61 y239.length co61 : Value).ownBlock)) (by (with_reducible repeat (first | apply Kd.R_alloc | apply Kd.R_drewN | apply Kd.R_drew)); exact Kd.R_mono HO_3.out (fun _ hk => ⟨hk.2, hk.1⟩)) hg hat)
                have n1_ := am (Kd.R_after (ok := (fun k_ => some k_ ≠ (.slice Ao9 x3_1.length co9 : Value).ownBlock)) (by (with_reducible repeat (first | apply Kd.R_alloc | apply Kd.R_drewN | apply Kd.R_drew)); exact Kd.R_mono HO241.out (fun _ hk => ⟨hk.2, hk.1⟩)) hg hat)
                have n2_ := am (hb)
                have n3_ := am (ho)
                clear HO_3
                clear HO241
                clear HB
                clear HO237
                have HO_3 := n0_
                have HO241 := n1_
                have HB := n2_
                have HO244 := n3_
                clear n0_ n1_ n2_ n3_
                clear ho hb hg hat
                refine hK.out _ _ ⟨(hc_ HB hw238_0), (hc_ HB hw238_1), (hc_ HB hw238_2), (hc_ HB hw238_3), (hc_ HB hw238_4), (hc_ HB hw238_5), (hc_ HB hw238_6), (hc_ HB hw238_7)⟩ (fun hHeld => ?_)
                clear hK K
                refine norm_ (a' := ?_) ?_ ?_
                rotate_left
                ·show Act.put _ (some 47) _ = _
                 simp only [Act.put, qa, qb, qc, i64_w, i32_w]
                 rfl
                refine one_ (i := 14) (N := some 51) #[o,o,o,o,o,o,o,o,o,o,o,o,o,o,o,z] rfl rfl (one_of HT_.out (by kernel_rfl)) (by decide) (fun K hK => ?_)
                refine Kd.R_append_rows_step k37 (w0 := w) w.heap.size (by rfl) (.tmp 47) (.tmp 50) 24 37 (.agg #[(.int .i64 0), (.int .i64 0), (.int .i64 0), (.int .i64 0), (.int .i64 0), (.int .i64 0), (.int .i64 0), (.int .i64 0)]) 64 rfl Try.underlying24 info37 rfl (by decide) (by omega) v243 y242 y245 _ _ _ (fun k_ => some k_ ≠ (.slice Ao9 x3_1.length co9 : Value).ownBlock ∧ some k_ ≠ (.slice Ao61 y239.length co61 : Value).ownBlock) (fun _ => False) rfl rfl ?aO ?aR (fun _ _ h => h) (fun _ h => h.elim) ?aF ?aB ?aS ?aL ?_
                (case aR => repeat (first | exact HR248.out _ _ HO_3.out | (with_reducible refine Kd.C_alloc ?_ _) | (with_reducible refine Kd.C_drewN ?_ _) | (with_reducible refine Kd.C_drew ?_)))
                (case aB => exact (sB HB.out))
                (case aF => exact (fun k_ hk => ⟨Kd.fresh' (Kd.R_lt (rB HO_3.out)) k_ hk, Kd.fresh' (Kd.R_lt (rB HO241.out)) k_ hk⟩))
                (case aO => exact (rB HO244.out))
                (case aS => exact (below_size (sB HB.out)))
                (case aL => have := LMc49.out; omega)
                intro v250 w62 ho hb hg hat
                rw [← Ny249.out] at ho
                have n0_ := am (Kd.R_after (ok := (fun k_ => some k_ ≠ (.slice Ao61 y239.length co61 : Value).ownBlock)) (rB HO_3.out) hg hat)
                have n1_ := am (Kd.R_after (ok := (fun k_ => some k_ ≠ (.slice Ao9 x3_1.length co9 : Value).ownBlock)) (rB HO241.out) hg hat)
                have n2_ := am (hb)
                have n3_ := am (ho)
                clear HO_3
                clear HO241
                clear HB
                clear HO244
                have HO_3 := n0_
                have HO241 := n1_
                have HB := n2_
                have HO251 := n3_
                clear n0_ n1_ n2_ n3_
                clear ho hb hg hat
                refine hK.out _ _ ⟨(hc_ HB hw238_0), (hc_ HB hw238_1), (hc_ HB hw238_2), (hc_ HB hw238_3), (hc_ HB hw238_4), (hc_ HB hw238_5), (hc_ HB hw238_6), (hc_ HB hw238_7)⟩ (fun hHeld => ?_)
                clear hK K
                refine norm_ (a' := ?_) ?_ ?_
                rotate_left
                ·show Act.put _ (some 51) _ = _
                 simp only [Act.put, qa, qb, qc, i64_w, i32_w]
                 rfl
                refine pure_ (i := 15) (N := some 3) (v := ?_) (a' := ?_) #[o,o,o,o,o,o,o,o,o,o,o,o,o,o,o,o] rfl rfl (any_of HT_.out (by kernel_rfl)) (fun _ _ _ h => h) (Or.inl ⟨by rfl, ?_⟩) ?_ ?_
                rotate_left
                ·intro w'
                 go_simp
                 with_reducible rfl
                rotate_left
                ·simp only [Act.put, qa, qb, qc, i64_w, i32_w]
                 rfl
                refine done_ (done_of HT_.out (by kernel_rfl)) ?_
                try go_wp2
                go_roundg k2
                case measure => have := HK1.out; have := HK2.out; omega
                case rel => exact ⟨(y249), (wrap64 (x4_1 + 1)), (by first | rfl | (simp; done) | (simp [*]; done)), H', ⟨by have := HK1.out; have := HK2.out; omega⟩, ⟨by (with_reducible repeat (first | apply Kd.R_alloc | apply Kd.R_drewN | apply Kd.R_drew)); exact Kd.R_mono HO251.out (fun _ hk => trivial)⟩, ⟨sB HB.out⟩⟩
               ·rw [if_neg c49] at H
                exact absurd H (by simp)
              ·rw [if_neg c46] at H
               exact absurd H (by simp)
             ·rw [if_neg c45] at H
              exact absurd H (by simp)
            ·rw [if_neg c44] at H
             exact absurd H (by simp)
           ·rw [if_neg c43] at H
            exact absurd H (by simp)
          ·rw [if_neg c42] at H
           exact absurd H (by simp)
         ·rw [if_neg c41] at H
          exact absurd H (by simp)
     ·replace c7 := Bool.eq_false_iff.mpr c7
      subst c7
      have H1 : (spec_SortRules.l0 k1 l0 x3_1 (wrap64 (x4_1 + 1))) = some r := by rw [if_neg (show ¬ (false = true) by decide)] at H; exact H
      clear H
      have H := H1
      clear H1
      have H' := Aside0.mk H
      clear H
      have p199 : 0 ≤ (x4_1 : Int) := of_decide_eq_true (by first | (with_reducible assumption) | assumption)
      have q199 : x4_1 < (l0.length : Int) := of_decide_eq_true (by first | (with_reducible assumption) | assumption)
      obtain ⟨ad199, e199, hx199_0, hx199_1, hx199_2, hx199_3, hx199_4, hx199_5, hx199_6, hx199_7⟩ := at_T37 HR0.out x4_1 p199 q199
      cases e199
      replace hx199_0 := hc_ HB hx199_0
      replace hx199_1 := hc_ HB hx199_1
      replace hx199_2 := hc_ HB hx199_2
      replace hx199_3 := hc_ HB hx199_3
      replace hx199_4 := hc_ HB hx199_4
      replace hx199_5 := hc_ HB hx199_5
      replace hx199_6 := hc_ HB hx199_6
      replace hx199_7 := hc_ HB hx199_7
      replace p199 := eq_true p199
      replace q199 := eq_true q199
      go_wp2_with (first | ((with_reducible refine gate_callee (f := 51) rfl ?_); refine goesL_ (some 17) rfl rfl Try.func51 (by kernel_rfl) rfl #[.agg #[.int .i64 ((rd_T37 l0 x4_1).f0), .int .i64 ((rd_T37 l0 x4_1).f1), .int .i64 ((rd_T37 l0 x4_1).f2.f0), .int .i64 ((rd_T37 l0 x4_1).f2.f1), .int .i64 ((rd_T37 l0 x4_1).f3), .int .i64 ((rd_T37 l0 x4_1).f4), .int .i64 ((rd_T37 l0 x4_1).f5.f0), .int .i64 ((rd_T37 l0 x4_1).f5.f1)]] rfl (by (try simp only [List.map_toArray, List.map_cons, List.map_nil]); first | done | rfl | (simp only [List.length_drop, List.length_take]; rfl)) ?_; (with_reducible refine (spec_IsRule.calls ((rd_T37 l0 x4_1).f0) ((rd_T37 l0 x4_1).f1) ((rd_T37 l0 x4_1).f2.f0) ((rd_T37 l0 x4_1).f2.f1) ((rd_T37 l0 x4_1).f3) ((rd_T37 l0 x4_1).f4) ((rd_T37 l0 x4_1).f5.f0) ((rd_T37 l0 x4_1).f5.f1) false _ A6.out).mono ?_); rintro e w63 ⟨rfl, hb⟩; refine ⟨_, rfl, ?_⟩; replace HO_3 := am (Kd.R_below (rB HO_3.out) hb); replace HB := am (below_step (sB HB.out) hb); (try clear hb); (try clear hb2); (try clear hk); (try clear hi)))
      go_roundg k1
      case measure => have := HK1.out; omega
      case rel => exact ⟨(x3_1), (wrap64 (x4_1 + 1)), (by first | rfl | (simp; done) | (simp [*]; done)), H', ⟨by have := HK1.out; omega⟩, ⟨by (with_reducible repeat (first | apply Kd.R_alloc | apply Kd.R_drewN | apply Kd.R_drew)); exact HO_3.out⟩, ⟨sB HB.out⟩⟩
    ·rw [if_neg c5] at H
     exact absurd H (by simp)
   ·rw [if_neg c4] at H
    have c4b0 : decide (x4_1 < (l0.length : Int)) = false := decide_eq_false c4
    clear c4
    obtain rfl := Option.some.inj H
    go_wp2
    go_ret
    exact ⟨_, by first | rfl | (simp [errW_none, errW_some] <;> rfl) | (simp [*, errW_none, errW_some] <;> rfl), by (with_reducible repeat (first | apply Kd.R_alloc | apply Kd.R_drewN | apply Kd.R_drew)); exact HO_3.out, sB HB.out⟩

end Go.Proofs.Ytepndcpncndjdaa.QS
