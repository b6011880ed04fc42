/- Go functions as Lean functions, each with its walk; printed by a program of this session (a scratch copy of print.py that follows nested field addresses and tells a law for the answer true). -/
import Derived.Test.YtepndcpncndjdaaQSx0
import Derived.Test.YtepndcpncndjdaaQSx60
import Derived.Test.YtepndcpncndjdaaQSx63
namespace Go.Proofs.Ytepndcpncndjdaa.QS
open Go.RowKit Go.Proofs.YtepndcpncndjdaaW.PrintWords Go.Proofs.YtepndcpncndjdaaW.PrintLast Go.Proofs.YtepndcpncndjdaaW.PrintMore Go.Proofs.Ytepndcpncndjdaa.Short
attribute [local go_sem] max2_int min2_int max_two min_two max_three min_three max_four min_four   -- for this text's walks alone
set_option linter.unusedVariables false
set_option linter.unusedSimpArgs false

/-! ### impl_DecideRule: function 11 -/
def impl_DecideRule.l0 : Nat → List (S37) → Int → List (S37) → Int → Int → Int → Int → Int → Option (Int)
 | 0, _, _, _, _, _, _, _, _ => none
 | k + 1, x0, x5, x8, x9, x10, x596000, x596001, x596002 => if x10 < x9 then (if 0 ≤ x10 then (if x10 < (x8.length : Int) then ((impl_Applies.f k ((rd_T37 x8 x10).f0) ((rd_T37 x8 x10).f1) ((rd_T37 x8 x10).f2.f0) ((rd_T37 x8 x10).f2.f1) ((rd_T37 x8 x10).f3) ((rd_T37 x8 x10).f4) ((rd_T37 x8 x10).f5.f0) ((rd_T37 x8 x10).f5.f1) x596000 x596001 x596002).bind fun t598 => (if t598 = true then (if x5 < 0 then (impl_DecideRule.l0 k x0 x10 x8 x9 (wrap64 (x10 + 1)) x596000 x596001 x596002) else (if 0 ≤ x5 then (if x5 < (x0.length : Int) then ((impl_IsBefore.f k ((rd_T37 x8 x10).f0) ((rd_T37 x8 x10).f1) ((rd_T37 x8 x10).f2.f0) ((rd_T37 x8 x10).f2.f1) ((rd_T37 x8 x10).f3) ((rd_T37 x8 x10).f4) ((rd_T37 x8 x10).f5.f0) ((rd_T37 x8 x10).f5.f1) ((rd_T37 x0 x5).f0) ((rd_T37 x0 x5).f1) ((rd_T37 x0 x5).f2.f0) ((rd_T37 x0 x5).f2.f1) ((rd_T37 x0 x5).f3) ((rd_T37 x0 x5).f4) ((rd_T37 x0 x5).f5.f0) ((rd_T37 x0 x5).f5.f1)).bind fun t600 => (if t600 = true then (impl_DecideRule.l0 k x0 x10 x8 x9 (wrap64 (x10 + 1)) x596000 x596001 x596002) else (impl_DecideRule.l0 k x0 x5 x8 x9 (wrap64 (x10 + 1)) x596000 x596001 x596002))) else (none)) else (none))) else (impl_DecideRule.l0 k x0 x5 x8 x9 (wrap64 (x10 + 1)) x596000 x596001 x596002))) else (none)) else (none)) else (some x5)
def impl_DecideRule.f (k : Nat) (l0 : List (S37)) (a1_0 : Int) (a1_1 : Int) (a1_2 : Int) : Option (Int) := impl_DecideRule.l0 k l0 (-1) l0 (l0.length : Int) 0 a1_0 a1_1 a1_2
theorem impl_DecideRule.mono_l : ∀ k, (∀ y0 y1 y2 y3 y4 y5 y6 y7, LeO (impl_DecideRule.l0 k y0 y1 y2 y3 y4 y5 y6 y7) (impl_DecideRule.l0 (k + 1) y0 y1 y2 y3 y4 y5 y6 y7))
 | 0 => fun _ _ _ _ _ _ _ _ r h => by simp [impl_DecideRule.l0] at h
 | k + 1 => by
  have ih0 := impl_DecideRule.mono_l k
  ·intro y0 y1 y2 y3 y4 y5 y6 y7
   unfold impl_DecideRule.l0
   repeat' first
   | (with_reducible exact ih0 _ _ _ _ _ _ _ _)
   | (with_reducible exact impl_Applies.mono _ _ _ _ _ _ _ _ _ _ _ _)
   | (with_reducible exact impl_IsBefore.mono _ _ _ _ _ _ _ _ _ _ _ _ _ _ _ _ _)
   | (with_reducible exact LeO.refl _)
   | (with_reducible exact LeO.none _)
   | (with_reducible refine LeO.ite ?_ ?_)
   | (with_reducible refine LeO.bind ?_ (fun _ => ?_))
   | exact ih0 _ _ _ _ _ _ _ _
   | exact impl_Applies.mono _ _ _ _ _ _ _ _ _ _ _ _
   | exact impl_IsBefore.mono _ _ _ _ _ _ _ _ _ _ _ _ _ _ _ _ _
   | exact LeO.none _
   | refine LeO.ite ?_ ?_
   | refine LeO.bind ?_ (fun _ => ?_)
theorem impl_DecideRule.mono : ∀ a0 a1 a2 a3 k, LeO (impl_DecideRule.f k a0 a1 a2 a3) (impl_DecideRule.f (k + 1) a0 a1 a2 a3) := by
 intro a0 a1 a2 a3 k
 have ih0 := impl_DecideRule.mono_l k
 unfold impl_DecideRule.f
 repeat' first
   | (with_reducible exact ih0 _ _ _ _ _ _ _ _)
   | (with_reducible exact impl_Applies.mono _ _ _ _ _ _ _ _ _ _ _ _)
   | (with_reducible exact impl_IsBefore.mono _ _ _ _ _ _ _ _ _ _ _ _ _ _ _ _ _)
   | (with_reducible exact LeO.refl _)
   | (with_reducible exact LeO.none _)
   | (with_reducible refine LeO.ite ?_ ?_)
   | (with_reducible refine LeO.bind ?_ (fun _ => ?_))
   | exact ih0 _ _ _ _ _ _ _ _
   | exact impl_Applies.mono _ _ _ _ _ _ _ _ _ _ _ _
   | exact impl_IsBefore.mono _ _ _ _ _ _ _ _ _ _ _ _ _ _ _ _ _
   | exact LeO.none _
   | refine LeO.ite ?_ ?_
   | refine LeO.bind ?_ (fun _ => ?_)
def impl_DecideRule.T5 : Bool × List (List Nat × List Nat) := (true, [([], []), ([], []), ([0, 1], [0, 1]), ([2, 2], [2]), ([3], [3]), ([4, 3], [3, 4]), ([5, 3, 3], [3, 5]), ([6], [6]), ([6], [6]), ([6], [6]), ([8, 9, 6], [6, 8, 9]), ([10, 6], [6, 10]), ([7, 11, 6, 6], [6, 7, 11]), ([6, 12, 3], [3, 6, 12]), ([3, 13], [3, 13])])
def impl_DecideRule.B5 : List Nat := [0, 0, 3, 7, 15, 31, 63, 127, 127, 127, 895, 1919, 4095, 8191, 16383]
theorem impl_DecideRule.tab5 : rtab .any (opsOf Try.f11 5) = impl_DecideRule.T5 := by kernel_rfl
theorem impl_DecideRule.bits5 : waitsOk impl_DecideRule.T5.2 impl_DecideRule.B5 = true := by kernel_rfl
set_option maxHeartbeats 8000000 in
set_option maxRecDepth 100000 in
theorem impl_DecideRule.calls (k : Nat) (A0 : Option Addr) (c0 : Nat) (l0 : List (S37)) (a1_0 : Int) (a1_1 : Int) (a1_2 : Int) (r : Int) (w : World) (hr0 : Kd.C k37 w A0 l0.length l0) (hc0 : l0.length ≤ c0) (h : impl_DecideRule.f k l0 a1_0 a1_1 a1_2 = some r) :
  Calls Try.prog 11 #[.slice A0 l0.length c0, .agg #[.int .i64 a1_0, .int .i64 a1_1, .int .i64 a1_2]] w fun e w' => e = .returned (.int .i64 r) ∧ Below w.heap.size w w' := by
 have hu28 := Try.underlying28
 have hu37 := Try.underlying37
 have HR0 := Aside0.mk hr0
 have HC0 := Aside0.mk hc0
 clear hr0 hc0
 have HB := am (Below.refl w.heap.size w)
 have H : (impl_DecideRule.l0 k l0 (-1) l0 (l0.length : Int) 0 a1_0 a1_1 a1_2) = some r := h
 clear h
 have H' := Aside0.mk H
 clear H
 go_enter Try.func11, Try.ntmps11
 go_wp2_with (first | ((with_reducible refine gate_dst (N := 3) rfl ?_); refine box_event ?hg (N := 3) ?hd (cs := #[.int .i64 a1_0, .int .i64 a1_1, .int .i64 a1_2]) (t := 28) ?hr ?_; (case hd => rfl); (case hg => rfl); (case hr => first | (go_simp; done) | (go_simp; rfl)); intro gb595 hg w3 hbox hb; have q_ := hbx_ (sB HB.out) hg hb; have n0_ := q_.1; have n1_ := am (hbox); have n2_ := q_.2; have n3_ := n2_; clear HB; have HB := n0_; have BK595 := n1_; have GW595 := n2_; have GE595 := n3_; clear n0_ n1_ n2_ n3_ hb hbox hg))
 go_loopg [5, 10] k (fun kq v5 v10 w' => ∃ (x5_1 : Int) (x10_1 : Int), v5 = .int .i64 x5_1 ∧ v10 = .int .i64 x10_1 ∧ Aside0 (impl_DecideRule.l0 kq l0 x5_1 l0 (l0.length : Int) x10_1 a1_0 a1_1 a1_2 = some r) ∧ Aside0 (kq ≤ k) ∧ Aside0 (w'.heap[gb595]? = some (.cells #[.int .i64 a1_0, .int .i64 a1_1, .int .i64 a1_2] 28 (0, 0))) ∧ Aside0 (Below w.heap.size w w'))
 case atStart => exact ⟨((-1)), (0), (by first | rfl | (simp; done) | (simp [*]; done)), (by first | rfl | (simp; done) | (simp [*]; done)), H', ⟨Nat.le_refl _⟩, ⟨bB BK595.out⟩, ⟨sB HB.out⟩⟩
 case round =>
  clear H'
  try clear c1
  try clear p2
  obtain ⟨x5_1, x10_1, rfl, rfl, HA, HK1, BK595, HB⟩ := hrel
  cases gk with
  | zero => exact absurd HA.out (by simp [impl_DecideRule.l0])
  | succ k1 =>
   have H := HA.out
   clear HA
   simp only [impl_DecideRule.l0] at H
   by_cases c4 : x10_1 < (l0.length : Int)
   ·rw [if_pos c4] at H
    have c4b0 : decide (x10_1 < (l0.length : Int)) = true := decide_eq_true c4
    clear c4
    by_cases c5 : 0 ≤ x10_1
    ·rw [if_pos c5] at H
     have c5b0 : decide (0 ≤ x10_1) = true := decide_eq_true c5
     clear c5
     by_cases c6 : x10_1 < (l0.length : Int)
     ·rw [if_pos c6] at H
      have c6b0 : decide (x10_1 < (l0.length : Int)) = true := decide_eq_true c6
      clear c6
      replace H := Option.bind_eq_some_iff.mp H
      obtain ⟨t598, A70, H⟩ := H
      replace H : (if t598 = true then (if x5_1 < 0 then (impl_DecideRule.l0 k1 l0 x10_1 l0 (l0.length : Int) (wrap64 (x10_1 + 1)) a1_0 a1_1 a1_2) else (if 0 ≤ x5_1 then (if x5_1 < (l0.length : Int) then ((impl_IsBefore.f k1 ((rd_T37 l0 x10_1).f0) ((rd_T37 l0 x10_1).f1) ((rd_T37 l0 x10_1).f2.f0) ((rd_T37 l0 x10_1).f2.f1) ((rd_T37 l0 x10_1).f3) ((rd_T37 l0 x10_1).f4) ((rd_T37 l0 x10_1).f5.f0) ((rd_T37 l0 x10_1).f5.f1) ((rd_T37 l0 x5_1).f0) ((rd_T37 l0 x5_1).f1) ((rd_T37 l0 x5_1).f2.f0) ((rd_T37 l0 x5_1).f2.f1) ((rd_T37 l0 x5_1).f3) ((rd_T37 l0 x5_1).f4) ((rd_T37 l0 x5_1).f5.f0) ((rd_T37 l0 x5_1).f5.f1)).bind fun t600 => (if t600 = true then (impl_DecideRule.l0 k1 l0 x10_1 l0 (l0.length : Int) (wrap64 (x10_1 + 1)) a1_0 a1_1 a1_2) else (impl_DecideRule.l0 k1 l0 x5_1 l0 (l0.length : Int) (wrap64 (x10_1 + 1)) a1_0 a1_1 a1_2))) else (none)) else (none))) else (impl_DecideRule.l0 k1 l0 x5_1 l0 (l0.length : Int) (wrap64 (x10_1 + 1)) a1_0 a1_1 a1_2)) = some r := H
      have A7 := Aside0.mk A70
      clear A70
      by_cases c8 : t598 = true
      ·subst c8
       have H1 : (if x5_1 < 0 then (impl_DecideRule.l0 k1 l0 x10_1 l0 (l0.length : Int) (wrap64 (x10_1 + 1)) a1_0 a1_1 a1_2) else (if 0 ≤ x5_1 then (if x5_1 < (l0.length : Int) then ((impl_IsBefore.f k1 ((rd_T37 l0 x10_1).f0) ((rd_T37 l0 x10_1).f1) ((rd_T37 l0 x10_1).f2.f0) ((rd_T37 l0 x10_1).f2.f1) ((rd_T37 l0 x10_1).f3) ((rd_T37 l0 x10_1).f4) ((rd_T37 l0 x10_1).f5.f0) ((rd_T37 l0 x10_1).f5.f1) ((rd_T37 l0 x5_1).f0) ((rd_T37 l0 x5_1).f1) ((rd_T37 l0 x5_1).f2.f0) ((rd_T37 l0 x5_1).f2.f1) ((rd_T37 l0 x5_1).f3) ((rd_T37 l0 x5_1).f4) ((rd_T37 l0 x5_1).f5.f0) ((rd_T37 l0 x5_1).f5.f1)).bind fun t600 => (if t600 = true then (impl_DecideRule.l0 k1 l0 x10_1 l0 (l0.length : Int) (wrap64 (x10_1 + 1)) a1_0 a1_1 a1_2) else (impl_DecideRule.l0 k1 l0 x5_1 l0 (l0.length : Int) (wrap64 (x10_1 + 1)) a1_0 a1_1 a1_2))) else (none)) else (none))) = some r := by rw [if_pos rfl] at H; exact H
       clear H
       have H := H1
       clear H1
       by_cases c9 : x5_1 < 0
       ·rw [if_pos c9] at H
        have c9b0 : decide (x5_1 < 0) = true := decide_eq_true c9
        clear c9
        have H' := Aside0.mk H
        clear H
        have p596 : 0 ≤ (x10_1 : Int) := of_decide_eq_true (by first | (with_reducible assumption) | assumption)
        have q596 : x10_1 < (l0.length : Int) := of_decide_eq_true (by first | (with_reducible assumption) | assumption)
        obtain ⟨ad596, e596, hx596_0, hx596_1, hx596_2, hx596_3, hx596_4, hx596_5, hx596_6, hx596_7⟩ := at_T37 HR0.out x10_1 p596 q596
        cases e596
        replace hx596_0 := hc_ HB hx596_0
        replace hx596_1 := hc_ HB hx596_1
        replace hx596_2 := hc_ HB hx596_2
        replace hx596_3 := hc_ HB hx596_3
        replace hx596_4 := hc_ HB hx596_4
        replace hx596_5 := hc_ HB hx596_5
        replace hx596_6 := hc_ HB hx596_6
        replace hx596_7 := hc_ HB hx596_7
        replace p596 := eq_true p596
        replace q596 := eq_true q596
        try go_wp2_with (first | ((with_reducible refine gate_dst (N := 7) rfl ?_); refine box_event ?hg (N := 7) ?hd (cs := #[.int .i64 0, .int .i64 0, .int .i64 0, .int .i64 0, .int .i64 0, .int .i64 0, .int .i64 0, .int .i64 0]) (t := 37) ?hr ?_; (case hd => rfl); (case hg => rfl); (case hr => first | (go_simp; done) | (go_simp; rfl)); intro gb597 hg w10 hbox hb; have n0_ := am (blk_below (bB BK595.out) hb); have q_ := hbx_ (sB HB.out) hg hb; have n1_ := q_.1; have n2_ := am (hbox); have n3_ := q_.2; have n4_ := n3_; have n5_ := am ((by rw [hg]; exact Nat.ne_of_lt (blk_lt (g := gb595) (o := .cells #[.int .i64 a1_0, .int .i64 a1_1, .int .i64 a1_2] 28 (0, 0)) (bB BK595.out)) : gb595 ≠ gb597)); have n6_ := am ((by rw [hg]; exact Nat.ne_of_gt (blk_lt (g := gb595) (o := .cells #[.int .i64 a1_0, .int .i64 a1_1, .int .i64 a1_2] 28 (0, 0)) (bB BK595.out)) : gb597 ≠ gb595)); clear BK595; clear HB; have BK595 := n0_; have HB := n1_; have BK597 := n2_; have GW597 := n3_; have GE597 := n4_; have NB595_597 := n5_; have NB597_595 := n6_; clear n0_ n1_ n2_ n3_ n4_ n5_ n6_; clear hb hbox hg; have hnb11 := NB597_595.out; have hnc11 := NB595_597.out; obtain ⟨hcz12_0, hcz12_1, hcz12_2, hcz12_3, hcz12_4, hcz12_5, hcz12_6, hcz12_7, hfz12_0, hfz12_1, hfz12_2, hfz12_3, hfz12_4, hfz12_5, hfz12_6, hfz12_7⟩ := blk8 BK597.out))
        have n0_ : Aside0 (((((((((w10.setCell ⟨gb597, 0, none⟩ (.int .i64 ((rd_T37 l0 x10_1).f0))).setCell ⟨gb597, 1, none⟩ (.int .i64 ((rd_T37 l0 x10_1).f1))).setCell ⟨gb597, 2, none⟩ (.int .i64 ((rd_T37 l0 x10_1).f2.f0))).setCell ⟨gb597, 3, none⟩ (.int .i64 ((rd_T37 l0 x10_1).f2.f1))).setCell ⟨gb597, 4, none⟩ (.int .i64 ((rd_T37 l0 x10_1).f3))).setCell ⟨gb597, 5, none⟩ (.int .i64 ((rd_T37 l0 x10_1).f4))).setCell ⟨gb597, 6, none⟩ (.int .i64 ((rd_T37 l0 x10_1).f5.f0))).setCell ⟨gb597, 7, none⟩ (.int .i64 ((rd_T37 l0 x10_1).f5.f1))).heap[gb595]? = some (.cells #[.int .i64 a1_0, .int .i64 a1_1, .int .i64 a1_2] 28 (0, 0))) := ⟨by refine bB ?_; refine blk_far ?_ NB595_597.out _; refine bB ?_; refine blk_far ?_ NB595_597.out _; refine bB ?_; refine blk_far ?_ NB595_597.out _; refine bB ?_; refine blk_far ?_ NB595_597.out _; refine bB ?_; refine blk_far ?_ NB595_597.out _; refine bB ?_; refine blk_far ?_ NB595_597.out _; refine bB ?_; refine blk_far ?_ NB595_597.out _; refine bB ?_; refine blk_far ?_ NB595_597.out _; refine bB ?_; exact BK595.out⟩
        have n1_ : Aside0 (((((((((w10.setCell ⟨gb597, 0, none⟩ (.int .i64 ((rd_T37 l0 x10_1).f0))).setCell ⟨gb597, 1, none⟩ (.int .i64 ((rd_T37 l0 x10_1).f1))).setCell ⟨gb597, 2, none⟩ (.int .i64 ((rd_T37 l0 x10_1).f2.f0))).setCell ⟨gb597, 3, none⟩ (.int .i64 ((rd_T37 l0 x10_1).f2.f1))).setCell ⟨gb597, 4, none⟩ (.int .i64 ((rd_T37 l0 x10_1).f3))).setCell ⟨gb597, 5, none⟩ (.int .i64 ((rd_T37 l0 x10_1).f4))).setCell ⟨gb597, 6, none⟩ (.int .i64 ((rd_T37 l0 x10_1).f5.f0))).setCell ⟨gb597, 7, none⟩ (.int .i64 ((rd_T37 l0 x10_1).f5.f1))).heap[gb597]? = some (.cells #[.int .i64 ((rd_T37 l0 x10_1).f0), .int .i64 ((rd_T37 l0 x10_1).f1), .int .i64 ((rd_T37 l0 x10_1).f2.f0), .int .i64 ((rd_T37 l0 x10_1).f2.f1), .int .i64 ((rd_T37 l0 x10_1).f3), .int .i64 ((rd_T37 l0 x10_1).f4), .int .i64 ((rd_T37 l0 x10_1).f5.f0), .int .i64 ((rd_T37 l0 x10_1).f5.f1)] 37 (0, 0))) := ⟨by refine bB ?_; refine blk_put (cs := #[.int .i64 ((rd_T37 l0 x10_1).f0), .int .i64 ((rd_T37 l0 x10_1).f1), .int .i64 ((rd_T37 l0 x10_1).f2.f0), .int .i64 ((rd_T37 l0 x10_1).f2.f1), .int .i64 ((rd_T37 l0 x10_1).f3), .int .i64 ((rd_T37 l0 x10_1).f4), .int .i64 ((rd_T37 l0 x10_1).f5.f0), .int .i64 0]) ?_ 7 _ rfl; refine bB ?_; refine blk_put (cs := #[.int .i64 ((rd_T37 l0 x10_1).f0), .int .i64 ((rd_T37 l0 x10_1).f1), .int .i64 ((rd_T37 l0 x10_1).f2.f0), .int .i64 ((rd_T37 l0 x10_1).f2.f1), .int .i64 ((rd_T37 l0 x10_1).f3), .int .i64 ((rd_T37 l0 x10_1).f4), .int .i64 0, .int .i64 0]) ?_ 6 _ rfl; refine bB ?_; refine blk_put (cs := #[.int .i64 ((rd_T37 l0 x10_1).f0), .int .i64 ((rd_T37 l0 x10_1).f1), .int .i64 ((rd_T37 l0 x10_1).f2.f0), .int .i64 ((rd_T37 l0 x10_1).f2.f1), .int .i64 ((rd_T37 l0 x10_1).f3), .int .i64 0, .int .i64 0, .int .i64 0]) ?_ 5 _ rfl; refine bB ?_; refine blk_put (cs := #[.int .i64 ((rd_T37 l0 x10_1).f0), .int .i64 ((rd_T37 l0 x10_1).f1), .int .i64 ((rd_T37 l0 x10_1).f2.f0), .int .i64 ((rd_T37 l0 x10_1).f2.f1), .int .i64 0, .int .i64 0, .int .i64 0, .int .i64 0]) ?_ 4 _ rfl; refine bB ?_; refine blk_put (cs := #[.int .i64 ((rd_T37 l0 x10_1).f0), .int .i64 ((rd_T37 l0 x10_1).f1), .int .i64 ((rd_T37 l0 x10_1).f2.f0), .int .i64 0, .int .i64 0, .int .i64 0, .int .i64 0, .int .i64 0]) ?_ 3 _ rfl; refine bB ?_; refine blk_put (cs := #[.int .i64 ((rd_T37 l0 x10_1).f0), .int .i64 ((rd_T37 l0 x10_1).f1), .int .i64 0, .int .i64 0, .int .i64 0, .int .i64 0, .int .i64 0, .int .i64 0]) ?_ 2 _ rfl; refine bB ?_; refine blk_put (cs := #[.int .i64 ((rd_T37 l0 x10_1).f0), .int .i64 0, .int .i64 0, .int .i64 0, .int .i64 0, .int .i64 0, .int .i64 0, .int .i64 0]) ?_ 1 _ rfl; refine bB ?_; refine blk_put (cs := #[.int .i64 0, .int .i64 0, .int .i64 0, .int .i64 0, .int .i64 0, .int .i64 0, .int .i64 0, .int .i64 0]) ?_ 0 _ rfl; refine bB ?_; exact BK597.out⟩
        have n2_ : Aside0 (Below w.heap.size w ((((((((w10.setCell ⟨gb597, 0, none⟩ (.int .i64 ((rd_T37 l0 x10_1).f0))).setCell ⟨gb597, 1, none⟩ (.int .i64 ((rd_T37 l0 x10_1).f1))).setCell ⟨gb597, 2, none⟩ (.int .i64 ((rd_T37 l0 x10_1).f2.f0))).setCell ⟨gb597, 3, none⟩ (.int .i64 ((rd_T37 l0 x10_1).f2.f1))).setCell ⟨gb597, 4, none⟩ (.int .i64 ((rd_T37 l0 x10_1).f3))).setCell ⟨gb597, 5, none⟩ (.int .i64 ((rd_T37 l0 x10_1).f4))).setCell ⟨gb597, 6, none⟩ (.int .i64 ((rd_T37 l0 x10_1).f5.f0))).setCell ⟨gb597, 7, none⟩ (.int .i64 ((rd_T37 l0 x10_1).f5.f1)))) := ⟨sB HB.out⟩
        (try clear BK595)
        (try clear BK597)
        (try clear HB)
        generalize ((((((((w10.setCell ⟨gb597, 0, none⟩ (.int .i64 ((rd_T37 l0 x10_1).f0))).setCell ⟨gb597, 1, none⟩ (.int .i64 ((rd_T37 l0 x10_1).f1))).setCell ⟨gb597, 2, none⟩ (.int .i64 ((rd_T37 l0 x10_1).f2.f0))).setCell ⟨gb597, 3, none⟩ (.int .i64 ((rd_T37 l0 x10_1).f2.f1))).setCell ⟨gb597, 4, none⟩ (.int .i64 ((rd_T37 l0 x10_1).f3))).setCell ⟨gb597, 5, none⟩ (.int .i64 ((rd_T37 l0 x10_1).f4))).setCell ⟨gb597, 6, none⟩ (.int .i64 ((rd_T37 l0 x10_1).f5.f0))).setCell ⟨gb597, 7, none⟩ (.int .i64 ((rd_T37 l0 x10_1).f5.f1))) = w13 at n0_ n1_ n2_ ⊢
        have BK595 := n0_
        have BK597 := n1_
        have HB := n2_
        clear n0_ n1_ n2_
        replace BK595 := am (blk_drew BK595.out)
        replace BK597 := am (blk_drew BK597.out)
        replace HB := am (below_drew1 HB.out)
        refine start_ (n := 15) (S := fun w' => w'.cell? ⟨gb597, 0, none⟩ = some (.int .i64 ((rd_T37 l0 x10_1).f0)) ∧ w'.cell? ⟨gb597, 1, none⟩ = some (.int .i64 ((rd_T37 l0 x10_1).f1)) ∧ w'.cell? ⟨gb597, 2, none⟩ = some (.int .i64 ((rd_T37 l0 x10_1).f2.f0)) ∧ w'.cell? ⟨gb597, 3, none⟩ = some (.int .i64 ((rd_T37 l0 x10_1).f2.f1)) ∧ w'.cell? ⟨gb597, 4, none⟩ = some (.int .i64 ((rd_T37 l0 x10_1).f3)) ∧ w'.cell? ⟨gb597, 5, none⟩ = some (.int .i64 ((rd_T37 l0 x10_1).f4)) ∧ w'.cell? ⟨gb597, 6, none⟩ = some (.int .i64 ((rd_T37 l0 x10_1).f5.f0)) ∧ w'.cell? ⟨gb597, 7, none⟩ = some (.int .i64 ((rd_T37 l0 x10_1).f5.f1)) ∧ w'.cell? ⟨gb595, 0, none⟩ = some (.int .i64 a1_0) ∧ w'.cell? ⟨gb595, 1, none⟩ = some (.int .i64 a1_1) ∧ w'.cell? ⟨gb595, 2, none⟩ = some (.int .i64 a1_2)) (ds := []) #[z,z,z,z,z,z,z,z,z,z,z,z,z,z,z] (by kernel_rfl) rfl rfl ⟨(blk_cell BK597.out 0).trans rfl, (blk_cell BK597.out 1).trans rfl, (blk_cell BK597.out 2).trans rfl, (blk_cell BK597.out 3).trans rfl, (blk_cell BK597.out 4).trans rfl, (blk_cell BK597.out 5).trans rfl, (blk_cell BK597.out 6).trans rfl, (blk_cell BK597.out 7).trans rfl, (blk_cell BK595.out 0).trans rfl, (blk_cell BK595.out 1).trans rfl, (blk_cell BK595.out 2).trans rfl⟩ (fun hHeld => ?_); refine with_tabW impl_DecideRule.tab5 impl_DecideRule.bits5 (fun HT_ HW_ => ?_)
        generalize w13.drew = w14 at BK595 BK597 HB hHeld ⊢
        refine take_ (i := 0) (N := some 15) (v := ?_) (a' := ?_) #[o,z,z,z,z,z,z,z,z,z,z,z,z,z,z] rfl rfl (take_ofW HT_.out HW_.out (by kernel_rfl)) (fun _ _ _ h => h) (Or.inl ⟨by rfl, ?_⟩) hHeld ?_ ?_
        rotate_left
        ·rintro w' ⟨s0, s1, s2, s3, s4, s5, s6, s7, s8, s9, s10⟩
         go_simp
         with_reducible rfl
        rotate_left
        ·simp only [Act.put, qa, qb, qc, i64_w, i32_w]
         rfl
        refine take_ (i := 1) (N := some 16) (v := ?_) (a' := ?_) #[o,o,z,z,z,z,z,z,z,z,z,z,z,z,z] rfl rfl (take_ofW HT_.out HW_.out (by kernel_rfl)) (fun _ _ _ h => h) (Or.inl ⟨by rfl, ?_⟩) hHeld ?_ ?_
        rotate_left
        ·rintro w' ⟨s0, s1, s2, s3, s4, s5, s6, s7, s8, s9, s10⟩
         go_simp
         with_reducible rfl
        rotate_left
        ·simp only [Act.put, qa, qb, qc, i64_w, i32_w]
         rfl
        refine one_ (i := 2) (N := some 17) #[o,o,o,z,z,z,z,z,z,z,z,z,z,z,z] rfl rfl (one_of HT_.out (by kernel_rfl)) (by decide) (fun K hK => ?_)
        refine goes_ Try.func13 (by kernel_rfl) rfl #[.agg #[.int .i64 ((rd_T37 l0 x10_1).f0), .int .i64 ((rd_T37 l0 x10_1).f1), .int .i64 ((rd_T37 l0 x10_1).f2.f0), .int .i64 ((rd_T37 l0 x10_1).f2.f1), .int .i64 ((rd_T37 l0 x10_1).f3), .int .i64 ((rd_T37 l0 x10_1).f4), .int .i64 ((rd_T37 l0 x10_1).f5.f0), .int .i64 ((rd_T37 l0 x10_1).f5.f1)], .agg #[.int .i64 a1_0, .int .i64 a1_1, .int .i64 a1_2]] (by rfl) rfl rfl (by (try simp only [List.map_toArray, List.map_cons, List.map_nil]); first | done | rfl | (simp only [List.length_drop, List.length_take]; rfl)) ?_
        with_reducible refine (impl_Applies.calls k1 ((rd_T37 l0 x10_1).f0) ((rd_T37 l0 x10_1).f1) ((rd_T37 l0 x10_1).f2.f0) ((rd_T37 l0 x10_1).f2.f1) ((rd_T37 l0 x10_1).f3) ((rd_T37 l0 x10_1).f4) ((rd_T37 l0 x10_1).f5.f0) ((rd_T37 l0 x10_1).f5.f1) a1_0 a1_1 a1_2 true _ A7.out).mono ?_
        rintro e w15 ⟨rfl, hb⟩
        refine ⟨_, rfl, ?_⟩
        replace BK595 := am (blk_below (bB BK595.out) hb)
        replace BK597 := am (blk_below (bB BK597.out) hb)
        replace HB := am (below_step (sB HB.out) hb)
        (try clear hb)
        (try clear hb2)
        (try clear hk)
        (try clear hi)
        refine hK.out _ _ ⟨(blk_cell BK597.out 0).trans rfl, (blk_cell BK597.out 1).trans rfl, (blk_cell BK597.out 2).trans rfl, (blk_cell BK597.out 3).trans rfl, (blk_cell BK597.out 4).trans rfl, (blk_cell BK597.out 5).trans rfl, (blk_cell BK597.out 6).trans rfl, (blk_cell BK597.out 7).trans rfl, (blk_cell BK595.out 0).trans rfl, (blk_cell BK595.out 1).trans rfl, (blk_cell BK595.out 2).trans rfl⟩ (fun hHeld => ?_)
        clear hK K
        refine norm_ (a' := ?_) ?_ ?_
        rotate_left
        ·show Act.put _ (some 17) _ = _
         simp only [Act.put, qa, qb, qc, i64_w, i32_w]
         rfl
        refine pure_ (i := 3) (N := some 18) (v := ?_) (a' := ?_) #[o,o,o,o,z,z,z,z,z,z,z,z,z,z,z] rfl rfl (any_of HT_.out (by kernel_rfl)) (fun _ _ _ h => h) (Or.inl ⟨by rfl, ?_⟩) ?_ ?_
        rotate_left
        ·intro w'
         go_simp
         with_reducible rfl
        rotate_left
        ·simp only [Act.put, qa, qb, qc, i64_w, i32_w]
         rfl
        refine pure_ (i := 4) (N := some 19) (v := ?_) (a' := ?_) #[o,o,o,o,o,z,z,z,z,z,z,z,z,z,z] rfl rfl (any_of HT_.out (by kernel_rfl)) (fun _ _ _ h => h) (Or.inl ⟨by rfl, ?_⟩) ?_ ?_
        rotate_left
        ·intro w'
         go_simp
         with_reducible rfl
        rotate_left
        ·simp only [Act.put, qa, qb, qc, i64_w, i32_w]
         rfl
        refine pure_ (i := 5) (N := some 20) (v := ?_) (a' := ?_) #[o,o,o,o,o,o,z,z,z,z,z,z,z,z,z] rfl rfl (any_of HT_.out (by kernel_rfl)) (fun _ _ _ h => h) (Or.inl ⟨by rfl, ?_⟩) ?_ ?_
        rotate_left
        ·intro w'
         go_simp
         with_reducible rfl
        rotate_left
        ·simp only [Act.put, qa, qb, qc, i64_w, i32_w]
         rfl
        refine pure_ (i := 6) (N := some 21) (v := ?_) (a' := ?_) #[o,o,o,o,o,o,o,z,z,z,z,z,z,z,z] rfl rfl (any_of HT_.out (by kernel_rfl)) (fun _ _ _ h => h) (Or.inl ⟨by rfl, ?_⟩) ?_ ?_
        rotate_left
        ·intro w'
         go_simp
         with_reducible rfl
        rotate_left
        ·simp only [Act.put, qa, qb, qc, i64_w, i32_w]
         rfl
        refine pure_ (i := 7) (N := some 22) (v := undef) (a' := ?_) #[o,o,o,o,o,o,o,o,z,z,z,z,z,z,z] rfl rfl (any_of HT_.out (by kernel_rfl)) (fun _ _ _ h => h) (Or.inr ⟨by rfl, rfl⟩) ?_ ?_
        rotate_left
        ·simp only [Act.put, qa, qb, qc, i64_w, i32_w]
         rfl
        refine pure_ (i := 8) (N := some 23) (v := undef) (a' := ?_) #[o,o,o,o,o,o,o,o,o,z,z,z,z,z,z] rfl rfl (any_of HT_.out (by kernel_rfl)) (fun _ _ _ h => h) (Or.inr ⟨by rfl, rfl⟩) ?_ ?_
        rotate_left
        ·simp only [Act.put, qa, qb, qc, i64_w, i32_w]
         rfl
        refine pure_ (i := 9) (N := some 24) (v := undef) (a' := ?_) #[o,o,o,o,o,o,o,o,o,o,z,z,z,z,z] rfl rfl (any_of HT_.out (by kernel_rfl)) (fun _ _ _ h => h) (Or.inr ⟨by rfl, rfl⟩) ?_ ?_
        rotate_left
        ·simp only [Act.put, qa, qb, qc, i64_w, i32_w]
         rfl
        refine pure_ (i := 10) (N := some 25) (v := undef) (a' := ?_) #[o,o,o,o,o,o,o,o,o,o,o,z,z,z,z] rfl rfl (any_of HT_.out (by kernel_rfl)) (fun _ _ _ h => h) (Or.inr ⟨by rfl, rfl⟩) ?_ ?_
        rotate_left
        ·simp only [Act.put, qa, qb, qc, i64_w, i32_w]
         rfl
        refine pure_ (i := 11) (N := some 26) (v := undef) (a' := ?_) #[o,o,o,o,o,o,o,o,o,o,o,o,z,z,z] rfl rfl (any_of HT_.out (by kernel_rfl)) (fun _ _ _ h => h) (Or.inr ⟨by rfl, rfl⟩) ?_ ?_
        rotate_left
        ·simp only [Act.put, qa, qb, qc, i64_w, i32_w]
         rfl
        refine pure_ (i := 12) (N := some 27) (v := undef) (a' := ?_) #[o,o,o,o,o,o,o,o,o,o,o,o,o,z,z] rfl rfl (any_of HT_.out (by kernel_rfl)) (fun _ _ _ h => h) (Or.inr ⟨by rfl, rfl⟩) ?_ ?_
        rotate_left
        ·simp only [Act.put, qa, qb, qc, i64_w, i32_w]
         rfl
        refine pure_ (i := 13) (N := some 28) (v := ?_) (a' := ?_) #[o,o,o,o,o,o,o,o,o,o,o,o,o,o,z] rfl rfl (any_of HT_.out (by kernel_rfl)) (fun _ _ _ h => h) (Or.inl ⟨by rfl, ?_⟩) ?_ ?_
        rotate_left
        ·intro w'
         go_simp
         with_reducible rfl
        rotate_left
        ·simp only [Act.put, qa, qb, qc, i64_w, i32_w]
         rfl
        refine pure_ (i := 14) (N := some 29) (v := ?_) (a' := ?_) #[o,o,o,o,o,o,o,o,o,o,o,o,o,o,o] rfl rfl (any_of HT_.out (by kernel_rfl)) (fun _ _ _ h => h) (Or.inl ⟨by rfl, ?_⟩) ?_ ?_
        rotate_left
        ·intro w'
         go_simp
         with_reducible rfl
        rotate_left
        ·simp only [Act.put, qa, qb, qc, i64_w, i32_w]
         rfl
        refine done_ (done_of HT_.out (by kernel_rfl)) ?_
        try go_wp2
        go_roundg k1
        case measure => have := HK1.out; omega
        case rel => exact ⟨(x10_1), (wrap64 (x10_1 + 1)), (by first | rfl | (simp; done) | (simp [*]; done)), (by first | rfl | (simp; done) | (simp [*]; done)), H', ⟨by have := HK1.out; omega⟩, ⟨bB BK595.out⟩, ⟨sB HB.out⟩⟩
       ·rw [if_neg c9] at H
        have c9b0 : decide (x5_1 < 0) = false := decide_eq_false c9
        clear c9
        by_cases c16 : 0 ≤ x5_1
        ·rw [if_pos c16] at H
         have c16b0 : decide (0 ≤ x5_1) = true := decide_eq_true c16
         clear c16
         by_cases c17 : x5_1 < (l0.length : Int)
         ·rw [if_pos c17] at H
          have c17b0 : decide (x5_1 < (l0.length : Int)) = true := decide_eq_true c17
          clear c17
          replace H := Option.bind_eq_some_iff.mp H
          obtain ⟨t600, A180, H⟩ := H
          replace H : (if t600 = true then (impl_DecideRule.l0 k1 l0 x10_1 l0 (l0.length : Int) (wrap64 (x10_1 + 1)) a1_0 a1_1 a1_2) else (impl_DecideRule.l0 k1 l0 x5_1 l0 (l0.length : Int) (wrap64 (x10_1 + 1)) a1_0 a1_1 a1_2)) = some r := H
          have A18 := Aside0.mk A180
          clear A180
          by_cases c19 : t600 = true
          ·subst c19
           have H1 : (impl_DecideRule.l0 k1 l0 x10_1 l0 (l0.length : Int) (wrap64 (x10_1 + 1)) a1_0 a1_1 a1_2) = some r := by rw [if_pos rfl] at H; exact H
           clear H
           have H := H1
           clear H1
           have H' := Aside0.mk H
           clear H
           have p596 : 0 ≤ (x10_1 : Int) := of_decide_eq_true (by first | (with_reducible assumption) | assumption)
           have q596 : x10_1 < (l0.length : Int) := of_decide_eq_true (by first | (with_reducible assumption) | assumption)
           obtain ⟨ad596, e596, hx596_0, hx596_1, hx596_2, hx596_3, hx596_4, hx596_5, hx596_6, hx596_7⟩ := at_T37 HR0.out x10_1 p596 q596
           cases e596
           replace hx596_0 := hc_ HB hx596_0
           replace hx596_1 := hc_ HB hx596_1
           replace hx596_2 := hc_ HB hx596_2
           replace hx596_3 := hc_ HB hx596_3
           replace hx596_4 := hc_ HB hx596_4
           replace hx596_5 := hc_ HB hx596_5
           replace hx596_6 := hc_ HB hx596_6
           replace hx596_7 := hc_ HB hx596_7
           replace p596 := eq_true p596
           replace q596 := eq_true q596
           try go_wp2_with (first | ((with_reducible refine gate_dst (N := 7) rfl ?_); refine box_event ?hg (N := 7) ?hd (cs := #[.int .i64 0, .int .i64 0, .int .i64 0, .int .i64 0, .int .i64 0, .int .i64 0, .int .i64 0, .int .i64 0]) (t := 37) ?hr ?_; (case hd => rfl); (case hg => rfl); (case hr => first | (go_simp; done) | (go_simp; rfl)); intro gb597 hg w20 hbox hb; have n0_ := am (blk_below (bB BK595.out) hb); have q_ := hbx_ (sB HB.out) hg hb; have n1_ := q_.1; have n2_ := am (hbox); have n3_ := q_.2; have n4_ := n3_; have n5_ := am ((by rw [hg]; exact Nat.ne_of_lt (blk_lt (g := gb595) (o := .cells #[.int .i64 a1_0, .int .i64 a1_1, .int .i64 a1_2] 28 (0, 0)) (bB BK595.out)) : gb595 ≠ gb597)); have n6_ := am ((by rw [hg]; exact Nat.ne_of_gt (blk_lt (g := gb595) (o := .cells #[.int .i64 a1_0, .int .i64 a1_1, .int .i64 a1_2] 28 (0, 0)) (bB BK595.out)) : gb597 ≠ gb595)); clear BK595; clear HB; have BK595 := n0_; have HB := n1_; have BK597 := n2_; have GW597 := n3_; have GE597 := n4_; have NB595_597 := n5_; have NB597_595 := n6_; clear n0_ n1_ n2_ n3_ n4_ n5_ n6_; clear hb hbox hg; have hnb21 := NB597_595.out; have hnc21 := NB595_597.out; obtain ⟨hcz22_0, hcz22_1, hcz22_2, hcz22_3, hcz22_4, hcz22_5, hcz22_6, hcz22_7, hfz22_0, hfz22_1, hfz22_2, hfz22_3, hfz22_4, hfz22_5, hfz22_6, hfz22_7⟩ := blk8 BK597.out))
           have n0_ : Aside0 (((((((((w20.setCell ⟨gb597, 0, none⟩ (.int .i64 ((rd_T37 l0 x10_1).f0))).setCell ⟨gb597, 1, none⟩ (.int .i64 ((rd_T37 l0 x10_1).f1))).setCell ⟨gb597, 2, none⟩ (.int .i64 ((rd_T37 l0 x10_1).f2.f0))).setCell ⟨gb597, 3, none⟩ (.int .i64 ((rd_T37 l0 x10_1).f2.f1))).setCell ⟨gb597, 4, none⟩ (.int .i64 ((rd_T37 l0 x10_1).f3))).setCell ⟨gb597, 5, none⟩ (.int .i64 ((rd_T37 l0 x10_1).f4))).setCell ⟨gb597, 6, none⟩ (.int .i64 ((rd_T37 l0 x10_1).f5.f0))).setCell ⟨gb597, 7, none⟩ (.int .i64 ((rd_T37 l0 x10_1).f5.f1))).heap[gb595]? = some (.cells #[.int .i64 a1_0, .int .i64 a1_1, .int .i64 a1_2] 28 (0, 0))) := ⟨by refine bB ?_; refine blk_far ?_ NB595_597.out _; refine bB ?_; refine blk_far ?_ NB595_597.out _; refine bB ?_; refine blk_far ?_ NB595_597.out _; refine bB ?_; refine blk_far ?_ NB595_597.out _; refine bB ?_; refine blk_far ?_ NB595_597.out _; refine bB ?_; refine blk_far ?_ NB595_597.out _; refine bB ?_; refine blk_far ?_ NB595_597.out _; refine bB ?_; refine blk_far ?_ NB595_597.out _; refine bB ?_; exact BK595.out⟩
           have n1_ : Aside0 (((((((((w20.setCell ⟨gb597, 0, none⟩ (.int .i64 ((rd_T37 l0 x10_1).f0))).setCell ⟨gb597, 1, none⟩ (.int .i64 ((rd_T37 l0 x10_1).f1))).setCell ⟨gb597, 2, none⟩ (.int .i64 ((rd_T37 l0 x10_1).f2.f0))).setCell ⟨gb597, 3, none⟩ (.int .i64 ((rd_T37 l0 x10_1).f2.f1))).setCell ⟨gb597, 4, none⟩ (.int .i64 ((rd_T37 l0 x10_1).f3))).setCell ⟨gb597, 5, none⟩ (.int .i64 ((rd_T37 l0 x10_1).f4))).setCell ⟨gb597, 6, none⟩ (.int .i64 ((rd_T37 l0 x10_1).f5.f0))).setCell ⟨gb597, 7, none⟩ (.int .i64 ((rd_T37 l0 x10_1).f5.f1))).heap[gb597]? = some (.cells #[.int .i64 ((rd_T37 l0 x10_1).f0), .int .i64 ((rd_T37 l0 x10_1).f1), .int .i64 ((rd_T37 l0 x10_1).f2.f0), .int .i64 ((rd_T37 l0 x10_1).f2.f1), .int .i64 ((rd_T37 l0 x10_1).f3), .int .i64 ((rd_T37 l0 x10_1).f4), .int .i64 ((rd_T37 l0 x10_1).f5.f0), .int .i64 ((rd_T37 l0 x10_1).f5.f1)] 37 (0, 0))) := ⟨by refine bB ?_; refine blk_put (cs := #[.int .i64 ((rd_T37 l0 x10_1).f0), .int .i64 ((rd_T37 l0 x10_1).f1), .int .i64 ((rd_T37 l0 x10_1).f2.f0), .int .i64 ((rd_T37 l0 x10_1).f2.f1), .int .i64 ((rd_T37 l0 x10_1).f3), .int .i64 ((rd_T37 l0 x10_1).f4), .int .i64 ((rd_T37 l0 x10_1).f5.f0), .int .i64 0]) ?_ 7 _ rfl; refine bB ?_; refine blk_put (cs := #[.int .i64 ((rd_T37 l0 x10_1).f0), .int .i64 ((rd_T37 l0 x10_1).f1), .int .i64 ((rd_T37 l0 x10_1).f2.f0), .int .i64 ((rd_T37 l0 x10_1).f2.f1), .int .i64 ((rd_T37 l0 x10_1).f3), .int .i64 ((rd_T37 l0 x10_1).f4), .int .i64 0, .int .i64 0]) ?_ 6 _ rfl; refine bB ?_; refine blk_put (cs := #[.int .i64 ((rd_T37 l0 x10_1).f0), .int .i64 ((rd_T37 l0 x10_1).f1), .int .i64 ((rd_T37 l0 x10_1).f2.f0), .int .i64 ((rd_T37 l0 x10_1).f2.f1), .int .i64 ((rd_T37 l0 x10_1).f3), .int .i64 0, .int .i64 0, .int .i64 0]) ?_ 5 _ rfl; refine bB ?_; refine blk_put (cs := #[.int .i64 ((rd_T37 l0 x10_1).f0), .int .i64 ((rd_T37 l0 x10_1).f1), .int .i64 ((rd_T37 l0 x10_1).f2.f0), .int .i64 ((rd_T37 l0 x10_1).f2.f1), .int .i64 0, .int .i64 0, .int .i64 0, .int .i64 0]) ?_ 4 _ rfl; refine bB ?_; refine blk_put (cs := #[.int .i64 ((rd_T37 l0 x10_1).f0), .int .i64 ((rd_T37 l0 x10_1).f1), .int .i64 ((rd_T37 l0 x10_1).f2.f0), .int .i64 0, .int .i64 0, .int .i64 0, .int .i64 0, .int .i64 0]) ?_ 3 _ rfl; refine bB ?_; refine blk_put (cs := #[.int .i64 ((rd_T37 l0 x10_1).f0), .int .i64 ((rd_T37 l0 x10_1).f1), .int .i64 0, .int .i64 0, .int .i64 0, .int .i64 0, .int .i64 0, .int .i64 0]) ?_ 2 _ rfl; refine bB ?_; refine blk_put (cs := #[.int .i64 ((rd_T37 l0 x10_1).f0), .int .i64 0, .int .i64 0, .int .i64 0, .int .i64 0, .int .i64 0, .int .i64 0, .int .i64 0]) ?_ 1 _ rfl; refine bB ?_; refine blk_put (cs := #[.int .i64 0, .int .i64 0, .int .i64 0, .int .i64 0, .int .i64 0, .int .i64 0, .int .i64 0, .int .i64 0]) ?_ 0 _ rfl; refine bB ?_; exact BK597.out⟩
           have n2_ : Aside0 (Below w.heap.size w ((((((((w20.setCell ⟨gb597, 0, none⟩ (.int .i64 ((rd_T37 l0 x10_1).f0))).setCell ⟨gb597, 1, none⟩ (.int .i64 ((rd_T37 l0 x10_1).f1))).setCell ⟨gb597, 2, none⟩ (.int .i64 ((rd_T37 l0 x10_1).f2.f0))).setCell ⟨gb597, 3, none⟩ (.int .i64 ((rd_T37 l0 x10_1).f2.f1))).setCell ⟨gb597, 4, none⟩ (.int .i64 ((rd_T37 l0 x10_1).f3))).setCell ⟨gb597, 5, none⟩ (.int .i64 ((rd_T37 l0 x10_1).f4))).setCell ⟨gb597, 6, none⟩ (.int .i64 ((rd_T37 l0 x10_1).f5.f0))).setCell ⟨gb597, 7, none⟩ (.int .i64 ((rd_T37 l0 x10_1).f5.f1)))) := ⟨sB HB.out⟩
           (try clear BK595)
           (try clear BK597)
           (try clear HB)
           generalize ((((((((w20.setCell ⟨gb597, 0, none⟩ (.int .i64 ((rd_T37 l0 x10_1).f0))).setCell ⟨gb597, 1, none⟩ (.int .i64 ((rd_T37 l0 x10_1).f1))).setCell ⟨gb597, 2, none⟩ (.int .i64 ((rd_T37 l0 x10_1).f2.f0))).setCell ⟨gb597, 3, none⟩ (.int .i64 ((rd_T37 l0 x10_1).f2.f1))).setCell ⟨gb597, 4, none⟩ (.int .i64 ((rd_T37 l0 x10_1).f3))).setCell ⟨gb597, 5, none⟩ (.int .i64 ((rd_T37 l0 x10_1).f4))).setCell ⟨gb597, 6, none⟩ (.int .i64 ((rd_T37 l0 x10_1).f5.f0))).setCell ⟨gb597, 7, none⟩ (.int .i64 ((rd_T37 l0 x10_1).f5.f1))) = w23 at n0_ n1_ n2_ ⊢
           have BK595 := n0_
           have BK597 := n1_
           have HB := n2_
           clear n0_ n1_ n2_
           replace BK595 := am (blk_drew BK595.out)
           replace BK597 := am (blk_drew BK597.out)
           replace HB := am (below_drew1 HB.out)
           have p599 : 0 ≤ (x5_1 : Int) := of_decide_eq_true (by first | (with_reducible assumption) | assumption)
           have q599 : x5_1 < (l0.length : Int) := of_decide_eq_true (by first | (with_reducible assumption) | assumption)
           obtain ⟨ad599, e599, hx599_0, hx599_1, hx599_2, hx599_3, hx599_4, hx599_5, hx599_6, hx599_7⟩ := at_T37 HR0.out x5_1 p599 q599
           have hw599_7 := hx599_7
           have hw599_6 := hx599_6
           have hw599_5 := hx599_5
           have hw599_4 := hx599_4
           have hw599_3 := hx599_3
           have hw599_2 := hx599_2
           have hw599_1 := hx599_1
           have hw599_0 := hx599_0
           obtain rfl : ad596 = ad599 := (by injection e599)
           replace hx599_0 := hc_ HB hx599_0
           replace hx599_1 := hc_ HB hx599_1
           replace hx599_2 := hc_ HB hx599_2
           replace hx599_3 := hc_ HB hx599_3
           replace hx599_4 := hc_ HB hx599_4
           replace hx599_5 := hc_ HB hx599_5
           replace hx599_6 := hc_ HB hx599_6
           replace hx599_7 := hc_ HB hx599_7
           replace p599 := eq_true p599
           replace q599 := eq_true q599
           refine start_ (n := 15) (S := fun w' => w'.cell? ⟨gb597, 0, none⟩ = some (.int .i64 ((rd_T37 l0 x10_1).f0)) ∧ w'.cell? ⟨gb597, 1, none⟩ = some (.int .i64 ((rd_T37 l0 x10_1).f1)) ∧ w'.cell? ⟨gb597, 2, none⟩ = some (.int .i64 ((rd_T37 l0 x10_1).f2.f0)) ∧ w'.cell? ⟨gb597, 3, none⟩ = some (.int .i64 ((rd_T37 l0 x10_1).f2.f1)) ∧ w'.cell? ⟨gb597, 4, none⟩ = some (.int .i64 ((rd_T37 l0 x10_1).f3)) ∧ w'.cell? ⟨gb597, 5, none⟩ = some (.int .i64 ((rd_T37 l0 x10_1).f4)) ∧ w'.cell? ⟨gb597, 6, none⟩ = some (.int .i64 ((rd_T37 l0 x10_1).f5.f0)) ∧ w'.cell? ⟨gb597, 7, none⟩ = some (.int .i64 ((rd_T37 l0 x10_1).f5.f1)) ∧ w'.cell? ⟨gb595, 0, none⟩ = some (.int .i64 a1_0) ∧ w'.cell? ⟨gb595, 1, none⟩ = some (.int .i64 a1_1) ∧ w'.cell? ⟨gb595, 2, none⟩ = some (.int .i64 a1_2) ∧ w'.cell? (ad596.add ((x5_1).toNat * 8)) = some (.int .i64 ((rd_T37 l0 x5_1).f0)) ∧ w'.cell? ⟨(ad596.add ((x5_1).toNat * 8)).block, (ad596.add ((x5_1).toNat * 8)).off + 1, none⟩ = some (.int .i64 ((rd_T37 l0 x5_1).f1)) ∧ w'.cell? ⟨(ad596.add ((x5_1).toNat * 8)).block, (ad596.add ((x5_1).toNat * 8)).off + 2, none⟩ = some (.int .i64 ((rd_T37 l0 x5_1).f2.f0)) ∧ w'.cell? ⟨(ad596.add ((x5_1).toNat * 8)).block, (ad596.add ((x5_1).toNat * 8)).off + 3, none⟩ = some (.int .i64 ((rd_T37 l0 x5_1).f2.f1)) ∧ w'.cell? ⟨(ad596.add ((x5_1).toNat * 8)).block, (ad596.add ((x5_1).toNat * 8)).off + 4, none⟩ = some (.int .i64 ((rd_T37 l0 x5_1).f3)) ∧ w'.cell? ⟨(ad596.add ((x5_1).toNat * 8)).block, (ad596.add ((x5_1).toNat * 8)).off + 5, none⟩ = some (.int .i64 ((rd_T37 l0 x5_1).f4)) ∧ w'.cell? ⟨(ad596.add ((x5_1).toNat * 8)).block, (ad596.add ((x5_1).toNat * 8)).off + 6, none⟩ = some (.int .i64 ((rd_T37 l0 x5_1).f5.f0)) ∧ w'.cell? ⟨(ad596.add ((x5_1).toNat * 8)).block, (ad596.add ((x5_1).toNat * 8)).off + 7, none⟩ = some (.int .i64 ((rd_T37 l0 x5_1).f5.f1))) (ds := []) #[z,z,z,z,z,z,z,z,z,z,z,z,z,z,z] (by kernel_rfl) rfl rfl ⟨(blk_cell BK597.out 0).trans rfl, (blk_cell BK597.out 1).trans rfl, (blk_cell BK597.out 2).trans rfl, (blk_cell BK597.out 3).trans rfl, (blk_cell BK597.out 4).trans rfl, (blk_cell BK597.out 5).trans rfl, (blk_cell BK597.out 6).trans rfl, (blk_cell BK597.out 7).trans rfl, (blk_cell BK595.out 0).trans rfl, (blk_cell BK595.out 1).trans rfl, (blk_cell BK595.out 2).trans rfl, (hc_ HB hw599_0), (hc_ HB hw599_1), (hc_ HB hw599_2), (hc_ HB hw599_3), (hc_ HB hw599_4), (hc_ HB hw599_5), (hc_ HB hw599_6), (hc_ HB hw599_7)⟩ (fun hHeld => ?_); refine with_tabW impl_DecideRule.tab5 impl_DecideRule.bits5 (fun HT_ HW_ => ?_)
           generalize w23.drew = w24 at BK595 BK597 HB hx599_0 hx599_1 hx599_2 hx599_3 hx599_4 hx599_5 hx599_6 hx599_7 hHeld ⊢
           refine take_ (i := 0) (N := some 15) (v := ?_) (a' := ?_) #[o,z,z,z,z,z,z,z,z,z,z,z,z,z,z] rfl rfl (take_ofW HT_.out HW_.out (by kernel_rfl)) (fun _ _ _ h => h) (Or.inl ⟨by rfl, ?_⟩) hHeld ?_ ?_
           rotate_left
           ·rintro w' ⟨s0, s1, s2, s3, s4, s5, s6, s7, s8, s9, s10, s11, s12, s13, s14, s15, s16, s17, s18⟩
            go_simp
            with_reducible rfl
           rotate_left
           ·simp only [Act.put, qa, qb, qc, i64_w, i32_w]
            rfl
           refine take_ (i := 1) (N := some 16) (v := ?_) (a' := ?_) #[o,o,z,z,z,z,z,z,z,z,z,z,z,z,z] rfl rfl (take_ofW HT_.out HW_.out (by kernel_rfl)) (fun _ _ _ h => h) (Or.inl ⟨by rfl, ?_⟩) hHeld ?_ ?_
           rotate_left
           ·rintro w' ⟨s0, s1, s2, s3, s4, s5, s6, s7, s8, s9, s10, s11, s12, s13, s14, s15, s16, s17, s18⟩
            go_simp
            with_reducible rfl
           rotate_left
           ·simp only [Act.put, qa, qb, qc, i64_w, i32_w]
            rfl
           refine one_ (i := 2) (N := some 17) #[o,o,o,z,z,z,z,z,z,z,z,z,z,z,z] rfl rfl (one_of HT_.out (by kernel_rfl)) (by decide) (fun K hK => ?_)
           refine goes_ Try.func13 (by kernel_rfl) rfl #[.agg #[.int .i64 ((rd_T37 l0 x10_1).f0), .int .i64 ((rd_T37 l0 x10_1).f1), .int .i64 ((rd_T37 l0 x10_1).f2.f0), .int .i64 ((rd_T37 l0 x10_1).f2.f1), .int .i64 ((rd_T37 l0 x10_1).f3), .int .i64 ((rd_T37 l0 x10_1).f4), .int .i64 ((rd_T37 l0 x10_1).f5.f0), .int .i64 ((rd_T37 l0 x10_1).f5.f1)], .agg #[.int .i64 a1_0, .int .i64 a1_1, .int .i64 a1_2]] (by rfl) rfl rfl (by (try simp only [List.map_toArray, List.map_cons, List.map_nil]); first | done | rfl | (simp only [List.length_drop, List.length_take]; rfl)) ?_
           with_reducible refine (impl_Applies.calls k1 ((rd_T37 l0 x10_1).f0) ((rd_T37 l0 x10_1).f1) ((rd_T37 l0 x10_1).f2.f0) ((rd_T37 l0 x10_1).f2.f1) ((rd_T37 l0 x10_1).f3) ((rd_T37 l0 x10_1).f4) ((rd_T37 l0 x10_1).f5.f0) ((rd_T37 l0 x10_1).f5.f1) a1_0 a1_1 a1_2 true _ A7.out).mono ?_
           rintro e w25 ⟨rfl, hb⟩
           refine ⟨_, rfl, ?_⟩
           replace BK595 := am (blk_below (bB BK595.out) hb)
           replace BK597 := am (blk_below (bB BK597.out) hb)
           replace HB := am (below_step (sB HB.out) hb)
           (try clear hb)
           (try clear hb2)
           (try clear hk)
           (try clear hi)
           refine hK.out _ _ ⟨(blk_cell BK597.out 0).trans rfl, (blk_cell BK597.out 1).trans rfl, (blk_cell BK597.out 2).trans rfl, (blk_cell BK597.out 3).trans rfl, (blk_cell BK597.out 4).trans rfl, (blk_cell BK597.out 5).trans rfl, (blk_cell BK597.out 6).trans rfl, (blk_cell BK597.out 7).trans rfl, (blk_cell BK595.out 0).trans rfl, (blk_cell BK595.out 1).trans rfl, (blk_cell BK595.out 2).trans rfl, (hc_ HB hw599_0), (hc_ HB hw599_1), (hc_ HB hw599_2), (hc_ HB hw599_3), (hc_ HB hw599_4), (hc_ HB hw599_5), (hc_ HB hw599_6), (hc_ HB hw599_7)⟩ (fun hHeld => ?_)
           clear hK K
           refine norm_ (a' := ?_) ?_ ?_
           rotate_left
           ·show Act.put _ (some 17) _ = _
            simp only [Act.put, qa, qb, qc, i64_w, i32_w]
            rfl
           refine pure_ (i := 3) (N := some 18) (v := ?_) (a' := ?_) #[o,o,o,o,z,z,z,z,z,z,z,z,z,z,z] rfl rfl (any_of HT_.out (by kernel_rfl)) (fun _ _ _ h => h) (Or.inl ⟨by rfl, ?_⟩) ?_ ?_
           rotate_left
           ·intro w'
            go_simp
            with_reducible rfl
           rotate_left
           ·simp only [Act.put, qa, qb, qc, i64_w, i32_w]
            rfl
           refine pure_ (i := 4) (N := some 19) (v := ?_) (a' := ?_) #[o,o,o,o,o,z,z,z,z,z,z,z,z,z,z] rfl rfl (any_of HT_.out (by kernel_rfl)) (fun _ _ _ h => h) (Or.inl ⟨by rfl, ?_⟩) ?_ ?_
           rotate_left
           ·intro w'
            go_simp
            with_reducible rfl
           rotate_left
           ·simp only [Act.put, qa, qb, qc, i64_w, i32_w]
            rfl
           refine pure_ (i := 5) (N := some 20) (v := ?_) (a' := ?_) #[o,o,o,o,o,o,z,z,z,z,z,z,z,z,z] rfl rfl (any_of HT_.out (by kernel_rfl)) (fun _ _ _ h => h) (Or.inl ⟨by rfl, ?_⟩) ?_ ?_
           rotate_left
           ·intro w'
            go_simp
            with_reducible rfl
           rotate_left
           ·simp only [Act.put, qa, qb, qc, i64_w, i32_w]
            rfl
           refine pure_ (i := 6) (N := some 21) (v := ?_) (a' := ?_) #[o,o,o,o,o,o,o,z,z,z,z,z,z,z,z] rfl rfl (any_of HT_.out (by kernel_rfl)) (fun _ _ _ h => h) (Or.inl ⟨by rfl, ?_⟩) ?_ ?_
           rotate_left
           ·intro w'
            go_simp
            with_reducible rfl
           rotate_left
           ·simp only [Act.put, qa, qb, qc, i64_w, i32_w]
            rfl
           refine pure_ (i := 8) (N := some 23) (v := ?_) (a' := ?_) #[o,o,o,o,o,o,o,z,o,z,z,z,z,z,z] rfl rfl (any_of HT_.out (by kernel_rfl)) (fun _ _ _ h => h) (Or.inl ⟨by rfl, ?_⟩) ?_ ?_
           rotate_left
           ·intro w'
            go_simp
            with_reducible rfl
           rotate_left
           ·simp only [Act.put, qa, qb, qc, i64_w, i32_w]
            rfl
           refine pure_ (i := 9) (N := some 24) (v := ?_) (a' := ?_) #[o,o,o,o,o,o,o,z,o,o,z,z,z,z,z] rfl rfl (any_of HT_.out (by kernel_rfl)) (fun _ _ _ h => h) (Or.inl ⟨by rfl, ?_⟩) ?_ ?_
           rotate_left
           ·intro w'
            go_simp
            with_reducible rfl
           rotate_left
           ·simp only [Act.put, qa, qb, qc, i64_w, i32_w]
            rfl
           refine pure_ (i := 10) (N := some 25) (v := ?_) (a' := ?_) #[o,o,o,o,o,o,o,z,o,o,o,z,z,z,z] rfl rfl (any_of HT_.out (by kernel_rfl)) (fun _ _ _ h => h) (Or.inl ⟨by rfl, ?_⟩) ?_ ?_
           rotate_left
           ·intro w'
            go_simp
            with_reducible rfl
           rotate_left
           ·simp only [Act.put, qa, qb, qc, i64_w, i32_w]
            rfl
           refine take_ (i := 7) (N := some 22) (v := ?_) (a' := ?_) #[o,o,o,o,o,o,o,o,o,o,o,z,z,z,z] rfl rfl (take_ofW HT_.out HW_.out (by kernel_rfl)) (fun _ _ _ h => h) (Or.inl ⟨by rfl, ?_⟩) hHeld ?_ ?_
           rotate_left
           ·rintro w' ⟨s0, s1, s2, s3, s4, s5, s6, s7, s8, s9, s10, s11, s12, s13, s14, s15, s16, s17, s18⟩
            go_simp
            with_reducible rfl
           rotate_left
           ·simp only [Act.put, qa, qb, qc, i64_w, i32_w]
            rfl
           refine take_ (i := 11) (N := some 26) (v := ?_) (a' := ?_) #[o,o,o,o,o,o,o,o,o,o,o,o,z,z,z] rfl rfl (take_ofW HT_.out HW_.out (by kernel_rfl)) (fun _ _ _ h => h) (Or.inl ⟨by rfl, ?_⟩) hHeld ?_ ?_
           rotate_left
           ·rintro w' ⟨s0, s1, s2, s3, s4, s5, s6, s7, s8, s9, s10, s11, s12, s13, s14, s15, s16, s17, s18⟩
            go_simp
            with_reducible rfl
           rotate_left
           ·simp only [Act.put, qa, qb, qc, i64_w, i32_w]
            rfl
           refine one_ (i := 12) (N := some 27) #[o,o,o,o,o,o,o,o,o,o,o,o,o,z,z] rfl rfl (one_of HT_.out (by kernel_rfl)) (by decide) (fun K hK => ?_)
           refine goes_ Try.func31 (by kernel_rfl) rfl #[.agg #[.int .i64 ((rd_T37 l0 x10_1).f0), .int .i64 ((rd_T37 l0 x10_1).f1), .int .i64 ((rd_T37 l0 x10_1).f2.f0), .int .i64 ((rd_T37 l0 x10_1).f2.f1), .int .i64 ((rd_T37 l0 x10_1).f3), .int .i64 ((rd_T37 l0 x10_1).f4), .int .i64 ((rd_T37 l0 x10_1).f5.f0), .int .i64 ((rd_T37 l0 x10_1).f5.f1)], .agg #[.int .i64 ((rd_T37 l0 x5_1).f0), .int .i64 ((rd_T37 l0 x5_1).f1), .int .i64 ((rd_T37 l0 x5_1).f2.f0), .int .i64 ((rd_T37 l0 x5_1).f2.f1), .int .i64 ((rd_T37 l0 x5_1).f3), .int .i64 ((rd_T37 l0 x5_1).f4), .int .i64 ((rd_T37 l0 x5_1).f5.f0), .int .i64 ((rd_T37 l0 x5_1).f5.f1)]] (by rfl) rfl rfl (by (try simp only [List.map_toArray, List.map_cons, List.map_nil]); first | done | rfl | (simp only [List.length_drop, List.length_take]; rfl)) ?_
           with_reducible refine (impl_IsBefore.calls k1 ((rd_T37 l0 x10_1).f0) ((rd_T37 l0 x10_1).f1) ((rd_T37 l0 x10_1).f2.f0) ((rd_T37 l0 x10_1).f2.f1) ((rd_T37 l0 x10_1).f3) ((rd_T37 l0 x10_1).f4) ((rd_T37 l0 x10_1).f5.f0) ((rd_T37 l0 x10_1).f5.f1) ((rd_T37 l0 x5_1).f0) ((rd_T37 l0 x5_1).f1) ((rd_T37 l0 x5_1).f2.f0) ((rd_T37 l0 x5_1).f2.f1) ((rd_T37 l0 x5_1).f3) ((rd_T37 l0 x5_1).f4) ((rd_T37 l0 x5_1).f5.f0) ((rd_T37 l0 x5_1).f5.f1) true _ A18.out).mono ?_
           rintro e w26 ⟨rfl, hb⟩
           refine ⟨_, rfl, ?_⟩
           replace BK595 := am (blk_below (bB BK595.out) hb)
           replace BK597 := am (blk_below (bB BK597.out) hb)
           replace HB := am (below_step (sB HB.out) hb)
           (try clear hb)
           (try clear hb2)
           (try clear hk)
           (try clear hi)
           refine hK.out _ _ ⟨(blk_cell BK597.out 0).trans rfl, (blk_cell BK597.out 1).trans rfl, (blk_cell BK597.out 2).trans rfl, (blk_cell BK597.out 3).trans rfl, (blk_cell BK597.out 4).trans rfl, (blk_cell BK597.out 5).trans rfl, (blk_cell BK597.out 6).trans rfl, (blk_cell BK597.out 7).trans rfl, (blk_cell BK595.out 0).trans rfl, (blk_cell BK595.out 1).trans rfl, (blk_cell BK595.out 2).trans rfl, (hc_ HB hw599_0), (hc_ HB hw599_1), (hc_ HB hw599_2), (hc_ HB hw599_3), (hc_ HB hw599_4), (hc_ HB hw599_5), (hc_ HB hw599_6), (hc_ HB hw599_7)⟩ (fun hHeld => ?_)
           clear hK K
           refine norm_ (a' := ?_) ?_ ?_
           rotate_left
           ·show Act.put _ (some 27) _ = _
            simp only [Act.put, qa, qb, qc, i64_w, i32_w]
            rfl
           refine pure_ (i := 13) (N := some 28) (v := ?_) (a' := ?_) #[o,o,o,o,o,o,o,o,o,o,o,o,o,o,z] rfl rfl (any_of HT_.out (by kernel_rfl)) (fun _ _ _ h => h) (Or.inl ⟨by rfl, ?_⟩) ?_ ?_
           rotate_left
           ·intro w'
            go_simp
            with_reducible rfl
           rotate_left
           ·simp only [Act.put, qa, qb, qc, i64_w, i32_w]
            rfl
           refine pure_ (i := 14) (N := some 29) (v := ?_) (a' := ?_) #[o,o,o,o,o,o,o,o,o,o,o,o,o,o,o] rfl rfl (any_of HT_.out (by kernel_rfl)) (fun _ _ _ h => h) (Or.inl ⟨by rfl, ?_⟩) ?_ ?_
           rotate_left
           ·intro w'
            go_simp
            with_reducible rfl
           rotate_left
           ·simp only [Act.put, qa, qb, qc, i64_w, i32_w]
            rfl
           refine done_ (done_of HT_.out (by kernel_rfl)) ?_
           try go_wp2
           go_roundg k1
           case measure => have := HK1.out; omega
           case rel => exact ⟨(x10_1), (wrap64 (x10_1 + 1)), (by first | rfl | (simp; done) | (simp [*]; done)), (by first | rfl | (simp; done) | (simp [*]; done)), H', ⟨by have := HK1.out; omega⟩, ⟨bB BK595.out⟩, ⟨sB HB.out⟩⟩
          ·replace c19 := Bool.eq_false_iff.mpr c19
           subst c19
           have H1 : (impl_DecideRule.l0 k1 l0 x5_1 l0 (l0.length : Int) (wrap64 (x10_1 + 1)) a1_0 a1_1 a1_2) = some r := by rw [if_neg (show ¬ (false = true) by decide)] at H; exact H
           clear H
           have H := H1
           clear H1
           have H' := Aside0.mk H
           clear H
           have p596 : 0 ≤ (x10_1 : Int) := of_decide_eq_true (by first | (with_reducible assumption) | assumption)
           have q596 : x10_1 < (l0.length : Int) := of_decide_eq_true (by first | (with_reducible assumption) | assumption)
           obtain ⟨ad596, e596, hx596_0, hx596_1, hx596_2, hx596_3, hx596_4, hx596_5, hx596_6, hx596_7⟩ := at_T37 HR0.out x10_1 p596 q596
           cases e596
           replace hx596_0 := hc_ HB hx596_0
           replace hx596_1 := hc_ HB hx596_1
           replace hx596_2 := hc_ HB hx596_2
           replace hx596_3 := hc_ HB hx596_3
           replace hx596_4 := hc_ HB hx596_4
           replace hx596_5 := hc_ HB hx596_5
           replace hx596_6 := hc_ HB hx596_6
           replace hx596_7 := hc_ HB hx596_7
           replace p596 := eq_true p596
           replace q596 := eq_true q596
           try go_wp2_with (first | ((with_reducible refine gate_dst (N := 7) rfl ?_); refine box_event ?hg (N := 7) ?hd (cs := #[.int .i64 0, .int .i64 0, .int .i64 0, .int .i64 0, .int .i64 0, .int .i64 0, .int .i64 0, .int .i64 0]) (t := 37) ?hr ?_; (case hd => rfl); (case hg => rfl); (case hr => first | (go_simp; done) | (go_simp; rfl)); intro gb597 hg w27 hbox hb; have n0_ := am (blk_below (bB BK595.out) hb); have q_ := hbx_ (sB HB.out) hg hb; have n1_ := q_.1; have n2_ := am (hbox); have n3_ := q_.2; have n4_ := n3_; have n5_ := am ((by rw [hg]; exact Nat.ne_of_lt (blk_lt (g := gb595) (o := .cells #[.int .i64 a1_0, .int .i64 a1_1, .int .i64 a1_2] 28 (0, 0)) (bB BK595.out)) : gb595 ≠ gb597)); have n6_ := am ((by rw [hg]; exact Nat.ne_of_gt (blk_lt (g := gb595) (o := .cells #[.int .i64 a1_0, .int .i64 a1_1, .int .i64 a1_2] 28 (0, 0)) (bB BK595.out)) : gb597 ≠ gb595)); clear BK595; clear HB; have BK595 := n0_; have HB := n1_; have BK597 := n2_; have GW597 := n3_; have GE597 := n4_; have NB595_597 := n5_; have NB597_595 := n6_; clear n0_ n1_ n2_ n3_ n4_ n5_ n6_; clear hb hbox hg; have hnb28 := NB597_595.out; have hnc28 := NB595_597.out; obtain ⟨hcz29_0, hcz29_1, hcz29_2, hcz29_3, hcz29_4, hcz29_5, hcz29_6, hcz29_7, hfz29_0, hfz29_1, hfz29_2, hfz29_3, hfz29_4, hfz29_5, hfz29_6, hfz29_7⟩ := blk8 BK597.out))
           have n0_ : Aside0 (((((((((w27.setCell ⟨gb597, 0, none⟩ (.int .i64 ((rd_T37 l0 x10_1).f0))).setCell ⟨gb597, 1, none⟩ (.int .i64 ((rd_T37 l0 x10_1).f1))).setCell ⟨gb597, 2, none⟩ (.int .i64 ((rd_T37 l0 x10_1).f2.f0))).setCell ⟨gb597, 3, none⟩ (.int .i64 ((rd_T37 l0 x10_1).f2.f1))).setCell ⟨gb597, 4, none⟩ (.int .i64 ((rd_T37 l0 x10_1).f3))).setCell ⟨gb597, 5, none⟩ (.int .i64 ((rd_T37 l0 x10_1).f4))).setCell ⟨gb597, 6, none⟩ (.int .i64 ((rd_T37 l0 x10_1).f5.f0))).setCell ⟨gb597, 7, none⟩ (.int .i64 ((rd_T37 l0 x10_1).f5.f1))).heap[gb595]? = some (.cells #[.int .i64 a1_0, .int .i64 a1_1, .int .i64 a1_2] 28 (0, 0))) := ⟨by refine bB ?_; refine blk_far ?_ NB595_597.out _; refine bB ?_; refine blk_far ?_ NB595_597.out _; refine bB ?_; refine blk_far ?_ NB595_597.out _; refine bB ?_; refine blk_far ?_ NB595_597.out _; refine bB ?_; refine blk_far ?_ NB595_597.out _; refine bB ?_; refine blk_far ?_ NB595_597.out _; refine bB ?_; refine blk_far ?_ NB595_597.out _; refine bB ?_; refine blk_far ?_ NB595_597.out _; refine bB ?_; exact BK595.out⟩
           have n1_ : Aside0 (((((((((w27.setCell ⟨gb597, 0, none⟩ (.int .i64 ((rd_T37 l0 x10_1).f0))).setCell ⟨gb597, 1, none⟩ (.int .i64 ((rd_T37 l0 x10_1).f1))).setCell ⟨gb597, 2, none⟩ (.int .i64 ((rd_T37 l0 x10_1).f2.f0))).setCell ⟨gb597, 3, none⟩ (.int .i64 ((rd_T37 l0 x10_1).f2.f1))).setCell ⟨gb597, 4, none⟩ (.int .i64 ((rd_T37 l0 x10_1).f3))).setCell ⟨gb597, 5, none⟩ (.int .i64 ((rd_T37 l0 x10_1).f4))).setCell ⟨gb597, 6, none⟩ (.int .i64 ((rd_T37 l0 x10_1).f5.f0))).setCell ⟨gb597, 7, none⟩ (.int .i64 ((rd_T37 l0 x10_1).f5.f1))).heap[gb597]? = some (.cells #[.int .i64 ((rd_T37 l0 x10_1).f0), .int .i64 ((rd_T37 l0 x10_1).f1), .int .i64 ((rd_T37 l0 x10_1).f2.f0), .int .i64 ((rd_T37 l0 x10_1).f2.f1), .int .i64 ((rd_T37 l0 x10_1).f3), .int .i64 ((rd_T37 l0 x10_1).f4), .int .i64 ((rd_T37 l0 x10_1).f5.f0), .int .i64 ((rd_T37 l0 x10_1).f5.f1)] 37 (0, 0))) := ⟨by refine bB ?_; refine blk_put (cs := #[.int .i64 ((rd_T37 l0 x10_1).f0), .int .i64 ((rd_T37 l0 x10_1).f1), .int .i64 ((rd_T37 l0 x10_1).f2.f0), .int .i64 ((rd_T37 l0 x10_1).f2.f1), .int .i64 ((rd_T37 l0 x10_1).f3), .int .i64 ((rd_T37 l0 x10_1).f4), .int .i64 ((rd_T37 l0 x10_1).f5.f0), .int .i64 0]) ?_ 7 _ rfl; refine bB ?_; refine blk_put (cs := #[.int .i64 ((rd_T37 l0 x10_1).f0), .int .i64 ((rd_T37 l0 x10_1).f1), .int .i64 ((rd_T37 l0 x10_1).f2.f0), .int .i64 ((rd_T37 l0 x10_1).f2.f1), .int .i64 ((rd_T37 l0 x10_1).f3), .int .i64 ((rd_T37 l0 x10_1).f4), .int .i64 0, .int .i64 0]) ?_ 6 _ rfl; refine bB ?_; refine blk_put (cs := #[.int .i64 ((rd_T37 l0 x10_1).f0), .int .i64 ((rd_T37 l0 x10_1).f1), .int .i64 ((rd_T37 l0 x10_1).f2.f0), .int .i64 ((rd_T37 l0 x10_1).f2.f1), .int .i64 ((rd_T37 l0 x10_1).f3), .int .i64 0, .int .i64 0, .int .i64 0]) ?_ 5 _ rfl; refine bB ?_; refine blk_put (cs := #[.int .i64 ((rd_T37 l0 x10_1).f0), .int .i64 ((rd_T37 l0 x10_1).f1), .int .i64 ((rd_T37 l0 x10_1).f2.f0), .int .i64 ((rd_T37 l0 x10_1).f2.f1), .int .i64 0, .int .i64 0, .int .i64 0, .int .i64 0]) ?_ 4 _ rfl; refine bB ?_; refine blk_put (cs := #[.int .i64 ((rd_T37 l0 x10_1).f0), .int .i64 ((rd_T37 l0 x10_1).f1), .int .i64 ((rd_T37 l0 x10_1).f2.f0), .int .i64 0, .int .i64 0, .int .i64 0, .int .i64 0, .int .i64 0]) ?_ 3 _ rfl; refine bB ?_; refine blk_put (cs := #[.int .i64 ((rd_T37 l0 x10_1).f0), .int .i64 ((rd_T37 l0 x10_1).f1), .int .i64 0, .int .i64 0, .int .i64 0, .int .i64 0, .int .i64 0, .int .i64 0]) ?_ 2 _ rfl; refine bB ?_; refine blk_put (cs := #[.int .i64 ((rd_T37 l0 x10_1).f0), .int .i64 0, .int .i64 0, .int .i64 0, .int .i64 0, .int .i64 0, .int .i64 0, .int .i64 0]) ?_ 1 _ rfl; refine bB ?_; refine blk_put (cs := #[.int .i64 0, .int .i64 0, .int .i64 0, .int .i64 0, .int .i64 0, .int .i64 0, .int .i64 0, .int .i64 0]) ?_ 0 _ rfl; refine bB ?_; exact BK597.out⟩
           have n2_ : Aside0 (Below w.heap.size w ((((((((w27.setCell ⟨gb597, 0, none⟩ (.int .i64 ((rd_T37 l0 x10_1).f0))).setCell ⟨gb597, 1, none⟩ (.int .i64 ((rd_T37 l0 x10_1).f1))).setCell ⟨gb597, 2, none⟩ (.int .i64 ((rd_T37 l0 x10_1).f2.f0))).setCell ⟨gb597, 3, none⟩ (.int .i64 ((rd_T37 l0 x10_1).f2.f1))).setCell ⟨gb597, 4, none⟩ (.int .i64 ((rd_T37 l0 x10_1).f3))).setCell ⟨gb597, 5, none⟩ (.int .i64 ((rd_T37 l0 x10_1).f4))).setCell ⟨gb597, 6, none⟩ (.int .i64 ((rd_T37 l0 x10_1).f5.f0))).setCell ⟨gb597, 7, none⟩ (.int .i64 ((rd_T37 l0 x10_1).f5.f1)))) := ⟨sB HB.out⟩
           (try clear BK595)
           (try clear BK597)
           (try clear HB)
           generalize ((((((((w27.setCell ⟨gb597, 0, none⟩ (.int .i64 ((rd_T37 l0 x10_1).f0))).setCell ⟨gb597, 1, none⟩ (.int .i64 ((rd_T37 l0 x10_1).f1))).setCell ⟨gb597, 2, none⟩ (.int .i64 ((rd_T37 l0 x10_1).f2.f0))).setCell ⟨gb597, 3, none⟩ (.int .i64 ((rd_T37 l0 x10_1).f2.f1))).setCell ⟨gb597, 4, none⟩ (.int .i64 ((rd_T37 l0 x10_1).f3))).setCell ⟨gb597, 5, none⟩ (.int .i64 ((rd_T37 l0 x10_1).f4))).setCell ⟨gb597, 6, none⟩ (.int .i64 ((rd_T37 l0 x10_1).f5.f0))).setCell ⟨gb597, 7, none⟩ (.int .i64 ((rd_T37 l0 x10_1).f5.f1))) = w30 at n0_ n1_ n2_ ⊢
           have BK595 := n0_
           have BK597 := n1_
           have HB := n2_
           clear n0_ n1_ n2_
           replace BK595 := am (blk_drew BK595.out)
           replace BK597 := am (blk_drew BK597.out)
           replace HB := am (below_drew1 HB.out)
           have p599 : 0 ≤ (x5_1 : Int) := of_decide_eq_true (by first | (with_reducible assumption) | assumption)
           have q599 : x5_1 < (l0.length : Int) := of_decide_eq_true (by first | (with_reducible assumption) | assumption)
           obtain ⟨ad599, e599, hx599_0, hx599_1, hx599_2, hx599_3, hx599_4, hx599_5, hx599_6, hx599_7⟩ := at_T37 HR0.out x5_1 p599 q599
           have hw599_7 := hx599_7
           have hw599_6 := hx599_6
           have hw599_5 := hx599_5
           have hw599_4 := hx599_4
           have hw599_3 := hx599_3
           have hw599_2 := hx599_2
           have hw599_1 := hx599_1
           have hw599_0 := hx599_0
           obtain rfl : ad596 = ad599 := (by injection e599)
           replace hx599_0 := hc_ HB hx599_0
           replace hx599_1 := hc_ HB hx599_1
           replace hx599_2 := hc_ HB hx599_2
           replace hx599_3 := hc_ HB hx599_3
           replace hx599_4 := hc_ HB hx599_4
           replace hx599_5 := hc_ HB hx599_5
           replace hx599_6 := hc_ HB hx599_6
           replace hx599_7 := hc_ HB hx599_7
           replace p599 := eq_true p599
           replace q599 := eq_true q599
           refine start_ (n := 15) (S := fun w' => w'.cell? ⟨gb597, 0, none⟩ = some (.int .i64 ((rd_T37 l0 x10_1).f0)) ∧ w'.cell? ⟨gb597, 1, none⟩ = some (.int .i64 ((rd_T37 l0 x10_1).f1)) ∧ w'.cell? ⟨gb597, 2, none⟩ = some (.int .i64 ((rd_T37 l0 x10_1).f2.f0)) ∧ w'.cell? ⟨gb597, 3, none⟩ = some (.int .i64 ((rd_T37 l0 x10_1).f2.f1)) ∧ w'.cell? ⟨gb597, 4, none⟩ = some (.int .i64 ((rd_T37 l0 x10_1).f3)) ∧ w'.cell? ⟨gb597, 5, none⟩ = some (.int .i64 ((rd_T37 l0 x10_1).f4)) ∧ w'.cell? ⟨gb597, 6, none⟩ = some (.int .i64 ((rd_T37 l0 x10_1).f5.f0)) ∧ w'.cell? ⟨gb597, 7, none⟩ = some (.int .i64 ((rd_T37 l0 x10_1).f5.f1)) ∧ w'.cell? ⟨gb595, 0, none⟩ = some (.int .i64 a1_0) ∧ w'.cell? ⟨gb595, 1, none⟩ = some (.int .i64 a1_1) ∧ w'.cell? ⟨gb595, 2, none⟩ = some (.int .i64 a1_2) ∧ w'.cell? (ad596.add ((x5_1).toNat * 8)) = some (.int .i64 ((rd_T37 l0 x5_1).f0)) ∧ w'.cell? ⟨(ad596.add ((x5_1).toNat * 8)).block, (ad596.add ((x5_1).toNat * 8)).off + 1, none⟩ = some (.int .i64 ((rd_T37 l0 x5_1).f1)) ∧ w'.cell? ⟨(ad596.add ((x5_1).toNat * 8)).block, (ad596.add ((x5_1).toNat * 8)).off + 2, none⟩ = some (.int .i64 ((rd_T37 l0 x5_1).f2.f0)) ∧ w'.cell? ⟨(ad596.add ((x5_1).toNat * 8)).block, (ad596.add ((x5_1).toNat * 8)).off + 3, none⟩ = some (.int .i64 ((rd_T37 l0 x5_1).f2.f1)) ∧ w'.cell? ⟨(ad596.add ((x5_1).toNat * 8)).block, (ad596.add ((x5_1).toNat * 8)).off + 4, none⟩ = some (.int .i64 ((rd_T37 l0 x5_1).f3)) ∧ w'.cell? ⟨(ad596.add ((x5_1).toNat * 8)).block, (ad596.add ((x5_1).toNat * 8)).off + 5, none⟩ = some (.int .i64 ((rd_T37 l0 x5_1).f4)) ∧ w'.cell? ⟨(ad596.add ((x5_1).toNat * 8)).block, (ad596.add ((x5_1).toNat * 8)).off + 6, none⟩ = some (.int .i64 ((rd_T37 l0 x5_1).f5.f0)) ∧ w'.cell? ⟨(ad596.add ((x5_1).toNat * 8)).block, (ad596.add ((x5_1).toNat * 8)).off + 7, none⟩ = some (.int .i64 ((rd_T37 l0 x5_1).f5.f1))) (ds := []) #[z,z,z,z,z,z,z,z,z,z,z,z,z,z,z] (by kernel_rfl) rfl rfl ⟨(blk_cell BK597.out 0).trans rfl, (blk_cell BK597.out 1).trans rfl, (blk_cell BK597.out 2).trans rfl, (blk_cell BK597.out 3).trans rfl, (blk_cell BK597.out 4).trans rfl, (blk_cell BK597.out 5).trans rfl, (blk_cell BK597.out 6).trans rfl, (blk_cell BK597.out 7).trans rfl, (blk_cell BK595.out 0).trans rfl, (blk_cell BK595.out 1).trans rfl, (blk_cell BK595.out 2).trans rfl, (hc_ HB hw599_0), (hc_ HB hw599_1), (hc_ HB hw599_2), (hc_ HB hw599_3), (hc_ HB hw599_4), (hc_ HB hw599_5), (hc_ HB hw599_6), (hc_ HB hw599_7)⟩ (fun hHeld => ?_); refine with_tabW impl_DecideRule.tab5 impl_DecideRule.bits5 (fun HT_ HW_ => ?_)
           generalize w30.drew = w31 at BK595 BK597 HB hx599_0 hx599_1 hx599_2 hx599_3 hx599_4 hx599_5 hx599_6 hx599_7 hHeld ⊢
           refine take_ (i := 0) (N := some 15) (v := ?_) (a' := ?_) #[o,z,z,z,z,z,z,z,z,z,z,z,z,z,z] rfl rfl (take_ofW HT_.out HW_.out (by kernel_rfl)) (fun _ _ _ h => h) (Or.inl ⟨by rfl, ?_⟩) hHeld ?_ ?_
           rotate_left
           ·rintro w' ⟨s0, s1, s2, s3, s4, s5, s6, s7, s8, s9, s10, s11, s12, s13, s14, s15, s16, s17, s18⟩
            go_simp
            with_reducible rfl
           rotate_left
           ·simp only [Act.put, qa, qb, qc, i64_w, i32_w]
            rfl
           refine take_ (i := 1) (N := some 16) (v := ?_) (a' := ?_) #[o,o,z,z,z,z,z,z,z,z,z,z,z,z,z] rfl rfl (take_ofW HT_.out HW_.out (by kernel_rfl)) (fun _ _ _ h => h) (Or.inl ⟨by rfl, ?_⟩) hHeld ?_ ?_
           rotate_left
           ·rintro w' ⟨s0, s1, s2, s3, s4, s5, s6, s7, s8, s9, s10, s11, s12, s13, s14, s15, s16, s17, s18⟩
            go_simp
            with_reducible rfl
           rotate_left
           ·simp only [Act.put, qa, qb, qc, i64_w, i32_w]
            rfl
           refine one_ (i := 2) (N := some 17) #[o,o,o,z,z,z,z,z,z,z,z,z,z,z,z] rfl rfl (one_of HT_.out (by kernel_rfl)) (by decide) (fun K hK => ?_)
           refine goes_ Try.func13 (by kernel_rfl) rfl #[.agg #[.int .i64 ((rd_T37 l0 x10_1).f0), .int .i64 ((rd_T37 l0 x10_1).f1), .int .i64 ((rd_T37 l0 x10_1).f2.f0), .int .i64 ((rd_T37 l0 x10_1).f2.f1), .int .i64 ((rd_T37 l0 x10_1).f3), .int .i64 ((rd_T37 l0 x10_1).f4), .int .i64 ((rd_T37 l0 x10_1).f5.f0), .int .i64 ((rd_T37 l0 x10_1).f5.f1)], .agg #[.int .i64 a1_0, .int .i64 a1_1, .int .i64 a1_2]] (by rfl) rfl rfl (by (try simp only [List.map_toArray, List.map_cons, List.map_nil]); first | done | rfl | (simp only [List.length_drop, List.length_take]; rfl)) ?_
           with_reducible refine (impl_Applies.calls k1 ((rd_T37 l0 x10_1).f0) ((rd_T37 l0 x10_1).f1) ((rd_T37 l0 x10_1).f2.f0) ((rd_T37 l0 x10_1).f2.f1) ((rd_T37 l0 x10_1).f3) ((rd_T37 l0 x10_1).f4) ((rd_T37 l0 x10_1).f5.f0) ((rd_T37 l0 x10_1).f5.f1) a1_0 a1_1 a1_2 true _ A7.out).mono ?_
           rintro e w32 ⟨rfl, hb⟩
           refine ⟨_, rfl, ?_⟩
           replace BK595 := am (blk_below (bB BK595.out) hb)
           replace BK597 := am (blk_below (bB BK597.out) hb)
           replace HB := am (below_step (sB HB.out) hb)
           (try clear hb)
           (try clear hb2)
           (try clear hk)
           (try clear hi)
           refine hK.out _ _ ⟨(blk_cell BK597.out 0).trans rfl, (blk_cell BK597.out 1).trans rfl, (blk_cell BK597.out 2).trans rfl, (blk_cell BK597.out 3).trans rfl, (blk_cell BK597.out 4).trans rfl, (blk_cell BK597.out 5).trans rfl, (blk_cell BK597.out 6).trans rfl, (blk_cell BK597.out 7).trans rfl, (blk_cell BK595.out 0).trans rfl, (blk_cell BK595.out 1).trans rfl, (blk_cell BK595.out 2).trans rfl, (hc_ HB hw599_0), (hc_ HB hw599_1), (hc_ HB hw599_2), (hc_ HB hw599_3), (hc_ HB hw599_4), (hc_ HB hw599_5), (hc_ HB hw599_6), (hc_ HB hw599_7)⟩ (fun hHeld => ?_)
           clear hK K
           refine norm_ (a' := ?_) ?_ ?_
           rotate_left
           ·show Act.put _ (some 17) _ = _
            simp only [Act.put, qa, qb, qc, i64_w, i32_w]
            rfl
           refine pure_ (i := 3) (N := some 18) (v := ?_) (a' := ?_) #[o,o,o,o,z,z,z,z,z,z,z,z,z,z,z] rfl rfl (any_of HT_.out (by kernel_rfl)) (fun _ _ _ h => h) (Or.inl ⟨by rfl, ?_⟩) ?_ ?_
           rotate_left
           ·intro w'
            go_simp
            with_reducible rfl
           rotate_left
           ·simp only [Act.put, qa, qb, qc, i64_w, i32_w]
            rfl
           refine pure_ (i := 4) (N := some 19) (v := ?_) (a' := ?_) #[o,o,o,o,o,z,z,z,z,z,z,z,z,z,z] rfl rfl (any_of HT_.out (by kernel_rfl)) (fun _ _ _ h => h) (Or.inl ⟨by rfl, ?_⟩) ?_ ?_
           rotate_left
           ·intro w'
            go_simp
            with_reducible rfl
           rotate_left
           ·simp only [Act.put, qa, qb, qc, i64_w, i32_w]
            rfl
           refine pure_ (i := 5) (N := some 20) (v := ?_) (a' := ?_) #[o,o,o,o,o,o,z,z,z,z,z,z,z,z,z] rfl rfl (any_of HT_.out (by kernel_rfl)) (fun _ _ _ h => h) (Or.inl ⟨by rfl, ?_⟩) ?_ ?_
           rotate_left
           ·intro w'
            go_simp
            with_reducible rfl
           rotate_left
           ·simp only [Act.put, qa, qb, qc, i64_w, i32_w]
            rfl
           refine pure_ (i := 6) (N := some 21) (v := ?_) (a' := ?_) #[o,o,o,o,o,o,o,z,z,z,z,z,z,z,z] rfl rfl (any_of HT_.out (by kernel_rfl)) (fun _ _ _ h => h) (Or.inl ⟨by rfl, ?_⟩) ?_ ?_
           rotate_left
           ·intro w'
            go_simp
            with_reducible rfl
           rotate_left
           ·simp only [Act.put, qa, qb, qc, i64_w, i32_w]
            rfl
           refine pure_ (i := 8) (N := some 23) (v := ?_) (a' := ?_) #[o,o,o,o,o,o,o,z,o,z,z,z,z,z,z] rfl rfl (any_of HT_.out (by kernel_rfl)) (fun _ _ _ h => h) (Or.inl ⟨by rfl, ?_⟩) ?_ ?_
           rotate_left
           ·intro w'
            go_simp
            with_reducible rfl
           rotate_left
           ·simp only [Act.put, qa, qb, qc, i64_w, i32_w]
            rfl
           refine pure_ (i := 9) (N := some 24) (v := ?_) (a' := ?_) #[o,o,o,o,o,o,o,z,o,o,z,z,z,z,z] rfl rfl (any_of HT_.out (by kernel_rfl)) (fun _ _ _ h => h) (Or.inl ⟨by rfl, ?_⟩) ?_ ?_
           rotate_left
           ·intro w'
            go_simp
            with_reducible rfl
           rotate_left
           ·simp only [Act.put, qa, qb, qc, i64_w, i32_w]
            rfl
           refine pure_ (i := 10) (N := some 25) (v := ?_) (a' := ?_) #[o,o,o,o,o,o,o,z,o,o,o,z,z,z,z] rfl rfl (any_of HT_.out (by kernel_rfl)) (fun _ _ _ h => h) (Or.inl ⟨by rfl, ?_⟩) ?_ ?_
           rotate_left
           ·intro w'
            go_simp
            with_reducible rfl
           rotate_left
           ·simp only [Act.put, qa, qb, qc, i64_w, i32_w]
            rfl
           refine take_ (i := 7) (N := some 22) (v := ?_) (a' := ?_) #[o,o,o,o,o,o,o,o,o,o,o,z,z,z,z] rfl rfl (take_ofW HT_.out HW_.out (by kernel_rfl)) (fun _ _ _ h => h) (Or.inl ⟨by rfl, ?_⟩) hHeld ?_ ?_
           rotate_left
           ·rintro w' ⟨s0, s1, s2, s3, s4, s5, s6, s7, s8, s9, s10, s11, s12, s13, s14, s15, s16, s17, s18⟩
            go_simp
            with_reducible rfl
           rotate_left
           ·simp only [Act.put, qa, qb, qc, i64_w, i32_w]
            rfl
           refine take_ (i := 11) (N := some 26) (v := ?_) (a' := ?_) #[o,o,o,o,o,o,o,o,o,o,o,o,z,z,z] rfl rfl (take_ofW HT_.out HW_.out (by kernel_rfl)) (fun _ _ _ h => h) (Or.inl ⟨by rfl, ?_⟩) hHeld ?_ ?_
           rotate_left
           ·rintro w' ⟨s0, s1, s2, s3, s4, s5, s6, s7, s8, s9, s10, s11, s12, s13, s14, s15, s16, s17, s18⟩
            go_simp
            with_reducible rfl
           rotate_left
           ·simp only [Act.put, qa, qb, qc, i64_w, i32_w]
            rfl
           refine one_ (i := 12) (N := some 27) #[o,o,o,o,o,o,o,o,o,o,o,o,o,z,z] rfl rfl (one_of HT_.out (by kernel_rfl)) (by decide) (fun K hK => ?_)
           refine goes_ Try.func31 (by kernel_rfl) rfl #[.agg #[.int .i64 ((rd_T37 l0 x10_1).f0), .int .i64 ((rd_T37 l0 x10_1).f1), .int .i64 ((rd_T37 l0 x10_1).f2.f0), .int .i64 ((rd_T37 l0 x10_1).f2.f1), .int .i64 ((rd_T37 l0 x10_1).f3), .int .i64 ((rd_T37 l0 x10_1).f4), .int .i64 ((rd_T37 l0 x10_1).f5.f0), .int .i64 ((rd_T37 l0 x10_1).f5.f1)], .agg #[.int .i64 ((rd_T37 l0 x5_1).f0), .int .i64 ((rd_T37 l0 x5_1).f1), .int .i64 ((rd_T37 l0 x5_1).f2.f0), .int .i64 ((rd_T37 l0 x5_1).f2.f1), .int .i64 ((rd_T37 l0 x5_1).f3), .int .i64 ((rd_T37 l0 x5_1).f4), .int .i64 ((rd_T37 l0 x5_1).f5.f0), .int .i64 ((rd_T37 l0 x5_1).f5.f1)]] (by rfl) rfl rfl (by (try simp only [List.map_toArray, List.map_cons, List.map_nil]); first | done | rfl | (simp only [List.length_drop, List.length_take]; rfl)) ?_
           with_reducible refine (impl_IsBefore.calls k1 ((rd_T37 l0 x10_1).f0) ((rd_T37 l0 x10_1).f1) ((rd_T37 l0 x10_1).f2.f0) ((rd_T37 l0 x10_1).f2.f1) ((rd_T37 l0 x10_1).f3) ((rd_T37 l0 x10_1).f4) ((rd_T37 l0 x10_1).f5.f0) ((rd_T37 l0 x10_1).f5.f1) ((rd_T37 l0 x5_1).f0) ((rd_T37 l0 x5_1).f1) ((rd_T37 l0 x5_1).f2.f0) ((rd_T37 l0 x5_1).f2.f1) ((rd_T37 l0 x5_1).f3) ((rd_T37 l0 x5_1).f4) ((rd_T37 l0 x5_1).f5.f0) ((rd_T37 l0 x5_1).f5.f1) false _ A18.out).mono ?_
           rintro e w33 ⟨rfl, hb⟩
           refine ⟨_, rfl, ?_⟩
           replace BK595 := am (blk_below (bB BK595.out) hb)
           replace BK597 := am (blk_below (bB BK597.out) hb)
           replace HB := am (below_step (sB HB.out) hb)
           (try clear hb)
           (try clear hb2)
           (try clear hk)
           (try clear hi)
           refine hK.out _ _ ⟨(blk_cell BK597.out 0).trans rfl, (blk_cell BK597.out 1).trans rfl, (blk_cell BK597.out 2).trans rfl, (blk_cell BK597.out 3).trans rfl, (blk_cell BK597.out 4).trans rfl, (blk_cell BK597.out 5).trans rfl, (blk_cell BK597.out 6).trans rfl, (blk_cell BK597.out 7).trans rfl, (blk_cell BK595.out 0).trans rfl, (blk_cell BK595.out 1).trans rfl, (blk_cell BK595.out 2).trans rfl, (hc_ HB hw599_0), (hc_ HB hw599_1), (hc_ HB hw599_2), (hc_ HB hw599_3), (hc_ HB hw599_4), (hc_ HB hw599_5), (hc_ HB hw599_6), (hc_ HB hw599_7)⟩ (fun hHeld => ?_)
           clear hK K
           refine norm_ (a' := ?_) ?_ ?_
           rotate_left
           ·show Act.put _ (some 27) _ = _
            simp only [Act.put, qa, qb, qc, i64_w, i32_w]
            rfl
           refine pure_ (i := 13) (N := some 28) (v := ?_) (a' := ?_) #[o,o,o,o,o,o,o,o,o,o,o,o,o,o,z] rfl rfl (any_of HT_.out (by kernel_rfl)) (fun _ _ _ h => h) (Or.inl ⟨by rfl, ?_⟩) ?_ ?_
           rotate_left
           ·intro w'
            go_simp
            with_reducible rfl
           rotate_left
           ·simp only [Act.put, qa, qb, qc, i64_w, i32_w]
            rfl
           refine pure_ (i := 14) (N := some 29) (v := ?_) (a' := ?_) #[o,o,o,o,o,o,o,o,o,o,o,o,o,o,o] rfl rfl (any_of HT_.out (by kernel_rfl)) (fun _ _ _ h => h) (Or.inl ⟨by rfl, ?_⟩) ?_ ?_
           rotate_left
           ·intro w'
            go_simp
            with_reducible rfl
           rotate_left
           ·simp only [Act.put, qa, qb, qc, i64_w, i32_w]
            rfl
           refine done_ (done_of HT_.out (by kernel_rfl)) ?_
           try go_wp2
           go_roundg k1
           case measure => have := HK1.out; omega
           case rel => exact ⟨(x5_1), (wrap64 (x10_1 + 1)), (by first | rfl | (simp; done) | (simp [*]; done)), (by first | rfl | (simp; done) | (simp [*]; done)), H', ⟨by have := HK1.out; omega⟩, ⟨bB BK595.out⟩, ⟨sB HB.out⟩⟩
         ·rw [if_neg c17] at H
          exact absurd H (by simp)
        ·rw [if_neg c16] at H
         exact absurd H (by simp)
      ·replace c8 := Bool.eq_false_iff.mpr c8
       subst c8
       have H1 : (impl_DecideRule.l0 k1 l0 x5_1 l0 (l0.length : Int) (wrap64 (x10_1 + 1)) a1_0 a1_1 a1_2) = some r := by rw [if_neg (show ¬ (false = true) by decide)] at H; exact H
       clear H
       have H := H1
       clear H1
       have H' := Aside0.mk H
       clear H
       have p596 : 0 ≤ (x10_1 : Int) := of_decide_eq_true (by first | (with_reducible assumption) | assumption)
       have q596 : x10_1 < (l0.length : Int) := of_decide_eq_true (by first | (with_reducible assumption) | assumption)
       obtain ⟨ad596, e596, hx596_0, hx596_1, hx596_2, hx596_3, hx596_4, hx596_5, hx596_6, hx596_7⟩ := at_T37 HR0.out x10_1 p596 q596
       cases e596
       replace hx596_0 := hc_ HB hx596_0
       replace hx596_1 := hc_ HB hx596_1
       replace hx596_2 := hc_ HB hx596_2
       replace hx596_3 := hc_ HB hx596_3
       replace hx596_4 := hc_ HB hx596_4
       replace hx596_5 := hc_ HB hx596_5
       replace hx596_6 := hc_ HB hx596_6
       replace hx596_7 := hc_ HB hx596_7
       replace p596 := eq_true p596
       replace q596 := eq_true q596
       try go_wp2_with (first | ((with_reducible refine gate_dst (N := 7) rfl ?_); refine box_event ?hg (N := 7) ?hd (cs := #[.int .i64 0, .int .i64 0, .int .i64 0, .int .i64 0, .int .i64 0, .int .i64 0, .int .i64 0, .int .i64 0]) (t := 37) ?hr ?_; (case hd => rfl); (case hg => rfl); (case hr => first | (go_simp; done) | (go_simp; rfl)); intro gb597 hg w34 hbox hb; have n0_ := am (blk_below (bB BK595.out) hb); have q_ := hbx_ (sB HB.out) hg hb; have n1_ := q_.1; have n2_ := am (hbox); have n3_ := q_.2; have n4_ := n3_; have n5_ := am ((by rw [hg]; exact Nat.ne_of_lt (blk_lt (g := gb595) (o := .cells #[.int .i64 a1_0, .int .i64 a1_1, .int .i64 a1_2] 28 (0, 0)) (bB BK595.out)) : gb595 ≠ gb597)); have n6_ := am ((by rw [hg]; exact Nat.ne_of_gt (blk_lt (g := gb595) (o := .cells #[.int .i64 a1_0, .int .i64 a1_1, .int .i64 a1_2] 28 (0, 0)) (bB BK595.out)) : gb597 ≠ gb595)); clear BK595; clear HB; have BK595 := n0_; have HB := n1_; have BK597 := n2_; have GW597 := n3_; have GE597 := n4_; have NB595_597 := n5_; have NB597_595 := n6_; clear n0_ n1_ n2_ n3_ n4_ n5_ n6_; clear hb hbox hg; have hnb35 := NB597_595.out; have hnc35 := NB595_597.out; obtain ⟨hcz36_0, hcz36_1, hcz36_2, hcz36_3, hcz36_4, hcz36_5, hcz36_6, hcz36_7, hfz36_0, hfz36_1, hfz36_2, hfz36_3, hfz36_4, hfz36_5, hfz36_6, hfz36_7⟩ := blk8 BK597.out))
       have n0_ : Aside0 (((((((((w34.setCell ⟨gb597, 0, none⟩ (.int .i64 ((rd_T37 l0 x10_1).f0))).setCell ⟨gb597, 1, none⟩ (.int .i64 ((rd_T37 l0 x10_1).f1))).setCell ⟨gb597, 2, none⟩ (.int .i64 ((rd_T37 l0 x10_1).f2.f0))).setCell ⟨gb597, 3, none⟩ (.int .i64 ((rd_T37 l0 x10_1).f2.f1))).setCell ⟨gb597, 4, none⟩ (.int .i64 ((rd_T37 l0 x10_1).f3))).setCell ⟨gb597, 5, none⟩ (.int .i64 ((rd_T37 l0 x10_1).f4))).setCell ⟨gb597, 6, none⟩ (.int .i64 ((rd_T37 l0 x10_1).f5.f0))).setCell ⟨gb597, 7, none⟩ (.int .i64 ((rd_T37 l0 x10_1).f5.f1))).heap[gb595]? = some (.cells #[.int .i64 a1_0, .int .i64 a1_1, .int .i64 a1_2] 28 (0, 0))) := ⟨by refine bB ?_; refine blk_far ?_ NB595_597.out _; refine bB ?_; refine blk_far ?_ NB595_597.out _; refine bB ?_; refine blk_far ?_ NB595_597.out _; refine bB ?_; refine blk_far ?_ NB595_597.out _; refine bB ?_; refine blk_far ?_ NB595_597.out _; refine bB ?_; refine blk_far ?_ NB595_597.out _; refine bB ?_; refine blk_far ?_ NB595_597.out _; refine bB ?_; refine blk_far ?_ NB595_597.out _; refine bB ?_; exact BK595.out⟩
       have n1_ : Aside0 (((((((((w34.setCell ⟨gb597, 0, none⟩ (.int .i64 ((rd_T37 l0 x10_1).f0))).setCell ⟨gb597, 1, none⟩ (.int .i64 ((rd_T37 l0 x10_1).f1))).setCell ⟨gb597, 2, none⟩ (.int .i64 ((rd_T37 l0 x10_1).f2.f0))).setCell ⟨gb597, 3, none⟩ (.int .i64 ((rd_T37 l0 x10_1).f2.f1))).setCell ⟨gb597, 4, none⟩ (.int .i64 ((rd_T37 l0 x10_1).f3))).setCell ⟨gb597, 5, none⟩ (.int .i64 ((rd_T37 l0 x10_1).f4))).setCell ⟨gb597, 6, none⟩ (.int .i64 ((rd_T37 l0 x10_1).f5.f0))).setCell ⟨gb597, 7, none⟩ (.int .i64 ((rd_T37 l0 x10_1).f5.f1))).heap[gb597]? = some (.cells #[.int .i64 ((rd_T37 l0 x10_1).f0), .int .i64 ((rd_T37 l0 x10_1).f1), .int .i64 ((rd_T37 l0 x10_1).f2.f0), .int .i64 ((rd_T37 l0 x10_1).f2.f1), .int .i64 ((rd_T37 l0 x10_1).f3), .int .i64 ((rd_T37 l0 x10_1).f4), .int .i64 ((rd_T37 l0 x10_1).f5.f0), .int .i64 ((rd_T37 l0 x10_1).f5.f1)] 37 (0, 0))) := ⟨by refine bB ?_; refine blk_put (cs := #[.int .i64 ((rd_T37 l0 x10_1).f0), .int .i64 ((rd_T37 l0 x10_1).f1), .int .i64 ((rd_T37 l0 x10_1).f2.f0), .int .i64 ((rd_T37 l0 x10_1).f2.f1), .int .i64 ((rd_T37 l0 x10_1).f3), .int .i64 ((rd_T37 l0 x10_1).f4), .int .i64 ((rd_T37 l0 x10_1).f5.f0), .int .i64 0]) ?_ 7 _ rfl; refine bB ?_; refine blk_put (cs := #[.int .i64 ((rd_T37 l0 x10_1).f0), .int .i64 ((rd_T37 l0 x10_1).f1), .int .i64 ((rd_T37 l0 x10_1).f2.f0), .int .i64 ((rd_T37 l0 x10_1).f2.f1), .int .i64 ((rd_T37 l0 x10_1).f3), .int .i64 ((rd_T37 l0 x10_1).f4), .int .i64 0, .int .i64 0]) ?_ 6 _ rfl; refine bB ?_; refine blk_put (cs := #[.int .i64 ((rd_T37 l0 x10_1).f0), .int .i64 ((rd_T37 l0 x10_1).f1), .int .i64 ((rd_T37 l0 x10_1).f2.f0), .int .i64 ((rd_T37 l0 x10_1).f2.f1), .int .i64 ((rd_T37 l0 x10_1).f3), .int .i64 0, .int .i64 0, .int .i64 0]) ?_ 5 _ rfl; refine bB ?_; refine blk_put (cs := #[.int .i64 ((rd_T37 l0 x10_1).f0), .int .i64 ((rd_T37 l0 x10_1).f1), .int .i64 ((rd_T37 l0 x10_1).f2.f0), .int .i64 ((rd_T37 l0 x10_1).f2.f1), .int .i64 0, .int .i64 0, .int .i64 0, .int .i64 0]) ?_ 4 _ rfl; refine bB ?_; refine blk_put (cs := #[.int .i64 ((rd_T37 l0 x10_1).f0), .int .i64 ((rd_T37 l0 x10_1).f1), .int .i64 ((rd_T37 l0 x10_1).f2.f0), .int .i64 0, .int .i64 0, .int .i64 0, .int .i64 0, .int .i64 0]) ?_ 3 _ rfl; refine bB ?_; refine blk_put (cs := #[.int .i64 ((rd_T37 l0 x10_1).f0), .int .i64 ((rd_T37 l0 x10_1).f1), .int .i64 0, .int .i64 0, .int .i64 0, .int .i64 0, .int .i64 0, .int .i64 0]) ?_ 2 _ rfl; refine bB ?_; refine blk_put (cs := #[.int .i64 ((rd_T37 l0 x10_1).f0), .int .i64 0, .int .i64 0, .int .i64 0, .int .i64 0, .int .i64 0, .int .i64 0, .int .i64 0]) ?_ 1 _ rfl; refine bB ?_; refine blk_put (cs := #[.int .i64 0, .int .i64 0, .int .i64 0, .int .i64 0, .int .i64 0, .int .i64 0, .int .i64 0, .int .i64 0]) ?_ 0 _ rfl; refine bB ?_; exact BK597.out⟩
       have n2_ : Aside0 (Below w.heap.size w ((((((((w34.setCell ⟨gb597, 0, none⟩ (.int .i64 ((rd_T37 l0 x10_1).f0))).setCell ⟨gb597, 1, none⟩ (.int .i64 ((rd_T37 l0 x10_1).f1))).setCell ⟨gb597, 2, none⟩ (.int .i64 ((rd_T37 l0 x10_1).f2.f0))).setCell ⟨gb597, 3, none⟩ (.int .i64 ((rd_T37 l0 x10_1).f2.f1))).setCell ⟨gb597, 4, none⟩ (.int .i64 ((rd_T37 l0 x10_1).f3))).setCell ⟨gb597, 5, none⟩ (.int .i64 ((rd_T37 l0 x10_1).f4))).setCell ⟨gb597, 6, none⟩ (.int .i64 ((rd_T37 l0 x10_1).f5.f0))).setCell ⟨gb597, 7, none⟩ (.int .i64 ((rd_T37 l0 x10_1).f5.f1)))) := ⟨sB HB.out⟩
       (try clear BK595)
       (try clear BK597)
       (try clear HB)
       generalize ((((((((w34.setCell ⟨gb597, 0, none⟩ (.int .i64 ((rd_T37 l0 x10_1).f0))).setCell ⟨gb597, 1, none⟩ (.int .i64 ((rd_T37 l0 x10_1).f1))).setCell ⟨gb597, 2, none⟩ (.int .i64 ((rd_T37 l0 x10_1).f2.f0))).setCell ⟨gb597, 3, none⟩ (.int .i64 ((rd_T37 l0 x10_1).f2.f1))).setCell ⟨gb597, 4, none⟩ (.int .i64 ((rd_T37 l0 x10_1).f3))).setCell ⟨gb597, 5, none⟩ (.int .i64 ((rd_T37 l0 x10_1).f4))).setCell ⟨gb597, 6, none⟩ (.int .i64 ((rd_T37 l0 x10_1).f5.f0))).setCell ⟨gb597, 7, none⟩ (.int .i64 ((rd_T37 l0 x10_1).f5.f1))) = w37 at n0_ n1_ n2_ ⊢
       have BK595 := n0_
       have BK597 := n1_
       have HB := n2_
       clear n0_ n1_ n2_
       replace BK595 := am (blk_drew BK595.out)
       replace BK597 := am (blk_drew BK597.out)
       replace HB := am (below_drew1 HB.out)
       refine start_ (n := 15) (S := fun w' => w'.cell? ⟨gb597, 0, none⟩ = some (.int .i64 ((rd_T37 l0 x10_1).f0)) ∧ w'.cell? ⟨gb597, 1, none⟩ = some (.int .i64 ((rd_T37 l0 x10_1).f1)) ∧ w'.cell? ⟨gb597, 2, none⟩ = some (.int .i64 ((rd_T37 l0 x10_1).f2.f0)) ∧ w'.cell? ⟨gb597, 3, none⟩ = some (.int .i64 ((rd_T37 l0 x10_1).f2.f1)) ∧ w'.cell? ⟨gb597, 4, none⟩ = some (.int .i64 ((rd_T37 l0 x10_1).f3)) ∧ w'.cell? ⟨gb597, 5, none⟩ = some (.int .i64 ((rd_T37 l0 x10_1).f4)) ∧ w'.cell? ⟨gb597, 6, none⟩ = some (.int .i64 ((rd_T37 l0 x10_1).f5.f0)) ∧ w'.cell? ⟨gb597, 7, none⟩ = some (.int .i64 ((rd_T37 l0 x10_1).f5.f1)) ∧ w'.cell? ⟨gb595, 0, none⟩ = some (.int .i64 a1_0) ∧ w'.cell? ⟨gb595, 1, none⟩ = some (.int .i64 a1_1) ∧ w'.cell? ⟨gb595, 2, none⟩ = some (.int .i64 a1_2)) (ds := []) #[z,z,z,z,z,z,z,z,z,z,z,z,z,z,z] (by kernel_rfl) rfl rfl ⟨(blk_cell BK597.out 0).trans rfl, (blk_cell BK597.out 1).trans rfl, (blk_cell BK597.out 2).trans rfl, (blk_cell BK597.out 3).trans rfl, (blk_cell BK597.out 4).trans rfl, (blk_cell BK597.out 5).trans rfl, (blk_cell BK597.out 6).trans rfl, (blk_cell BK597.out 7).trans rfl, (blk_cell BK595.out 0).trans rfl, (blk_cell BK595.out 1).trans rfl, (blk_cell BK595.out 2).trans rfl⟩ (fun hHeld => ?_); refine with_tabW impl_DecideRule.tab5 impl_DecideRule.bits5 (fun HT_ HW_ => ?_)
       generalize w37.drew = w38 at BK595 BK597 HB hHeld ⊢
       refine take_ (i := 0) (N := some 15) (v := ?_) (a' := ?_) #[o,z,z,z,z,z,z,z,z,z,z,z,z,z,z] rfl rfl (take_ofW HT_.out HW_.out (by kernel_rfl)) (fun _ _ _ h => h) (Or.inl ⟨by rfl, ?_⟩) hHeld ?_ ?_
       rotate_left
       ·rintro w' ⟨s0, s1, s2, s3, s4, s5, s6, s7, s8, s9, s10⟩
        go_simp
        with_reducible rfl
       rotate_left
       ·simp only [Act.put, qa, qb, qc, i64_w, i32_w]
        rfl
       refine take_ (i := 1) (N := some 16) (v := ?_) (a' := ?_) #[o,o,z,z,z,z,z,z,z,z,z,z,z,z,z] rfl rfl (take_ofW HT_.out HW_.out (by kernel_rfl)) (fun _ _ _ h => h) (Or.inl ⟨by rfl, ?_⟩) hHeld ?_ ?_
       rotate_left
       ·rintro w' ⟨s0, s1, s2, s3, s4, s5, s6, s7, s8, s9, s10⟩
        go_simp
        with_reducible rfl
       rotate_left
       ·simp only [Act.put, qa, qb, qc, i64_w, i32_w]
        rfl
       refine one_ (i := 2) (N := some 17) #[o,o,o,z,z,z,z,z,z,z,z,z,z,z,z] rfl rfl (one_of HT_.out (by kernel_rfl)) (by decide) (fun K hK => ?_)
       refine goes_ Try.func13 (by kernel_rfl) rfl #[.agg #[.int .i64 ((rd_T37 l0 x10_1).f0), .int .i64 ((rd_T37 l0 x10_1).f1), .int .i64 ((rd_T37 l0 x10_1).f2.f0), .int .i64 ((rd_T37 l0 x10_1).f2.f1), .int .i64 ((rd_T37 l0 x10_1).f3), .int .i64 ((rd_T37 l0 x10_1).f4), .int .i64 ((rd_T37 l0 x10_1).f5.f0), .int .i64 ((rd_T37 l0 x10_1).f5.f1)], .agg #[.int .i64 a1_0, .int .i64 a1_1, .int .i64 a1_2]] (by rfl) rfl rfl (by (try simp only [List.map_toArray, List.map_cons, List.map_nil]); first | done | rfl | (simp only [List.length_drop, List.length_take]; rfl)) ?_
       with_reducible refine (impl_Applies.calls k1 ((rd_T37 l0 x10_1).f0) ((rd_T37 l0 x10_1).f1) ((rd_T37 l0 x10_1).f2.f0) ((rd_T37 l0 x10_1).f2.f1) ((rd_T37 l0 x10_1).f3) ((rd_T37 l0 x10_1).f4) ((rd_T37 l0 x10_1).f5.f0) ((rd_T37 l0 x10_1).f5.f1) a1_0 a1_1 a1_2 false _ A7.out).mono ?_
       rintro e w39 ⟨rfl, hb⟩
       refine ⟨_, rfl, ?_⟩
       replace BK595 := am (blk_below (bB BK595.out) hb)
       replace BK597 := am (blk_below (bB BK597.out) hb)
       replace HB := am (below_step (sB HB.out) hb)
       (try clear hb)
       (try clear hb2)
       (try clear hk)
       (try clear hi)
       refine hK.out _ _ ⟨(blk_cell BK597.out 0).trans rfl, (blk_cell BK597.out 1).trans rfl, (blk_cell BK597.out 2).trans rfl, (blk_cell BK597.out 3).trans rfl, (blk_cell BK597.out 4).trans rfl, (blk_cell BK597.out 5).trans rfl, (blk_cell BK597.out 6).trans rfl, (blk_cell BK597.out 7).trans rfl, (blk_cell BK595.out 0).trans rfl, (blk_cell BK595.out 1).trans rfl, (blk_cell BK595.out 2).trans rfl⟩ (fun hHeld => ?_)
       clear hK K
       refine norm_ (a' := ?_) ?_ ?_
       rotate_left
       ·show Act.put _ (some 17) _ = _
        simp only [Act.put, qa, qb, qc, i64_w, i32_w]
        rfl
       refine pure_ (i := 3) (N := some 18) (v := ?_) (a' := ?_) #[o,o,o,o,z,z,z,z,z,z,z,z,z,z,z] rfl rfl (any_of HT_.out (by kernel_rfl)) (fun _ _ _ h => h) (Or.inl ⟨by rfl, ?_⟩) ?_ ?_
       rotate_left
       ·intro w'
        go_simp
        with_reducible rfl
       rotate_left
       ·simp only [Act.put, qa, qb, qc, i64_w, i32_w]
        rfl
       refine pure_ (i := 4) (N := some 19) (v := undef) (a' := ?_) #[o,o,o,o,o,z,z,z,z,z,z,z,z,z,z] rfl rfl (any_of HT_.out (by kernel_rfl)) (fun _ _ _ h => h) (Or.inr ⟨by rfl, rfl⟩) ?_ ?_
       rotate_left
       ·simp only [Act.put, qa, qb, qc, i64_w, i32_w]
        rfl
       refine pure_ (i := 5) (N := some 20) (v := undef) (a' := ?_) #[o,o,o,o,o,o,z,z,z,z,z,z,z,z,z] rfl rfl (any_of HT_.out (by kernel_rfl)) (fun _ _ _ h => h) (Or.inr ⟨by rfl, rfl⟩) ?_ ?_
       rotate_left
       ·simp only [Act.put, qa, qb, qc, i64_w, i32_w]
        rfl
       refine pure_ (i := 6) (N := some 21) (v := undef) (a' := ?_) #[o,o,o,o,o,o,o,z,z,z,z,z,z,z,z] rfl rfl (any_of HT_.out (by kernel_rfl)) (fun _ _ _ h => h) (Or.inr ⟨by rfl, rfl⟩) ?_ ?_
       rotate_left
       ·simp only [Act.put, qa, qb, qc, i64_w, i32_w]
        rfl
       refine pure_ (i := 7) (N := some 22) (v := undef) (a' := ?_) #[o,o,o,o,o,o,o,o,z,z,z,z,z,z,z] rfl rfl (any_of HT_.out (by kernel_rfl)) (fun _ _ _ h => h) (Or.inr ⟨by rfl, rfl⟩) ?_ ?_
       rotate_left
       ·simp only [Act.put, qa, qb, qc, i64_w, i32_w]
        rfl
       refine pure_ (i := 8) (N := some 23) (v := undef) (a' := ?_) #[o,o,o,o,o,o,o,o,o,z,z,z,z,z,z] rfl rfl (any_of HT_.out (by kernel_rfl)) (fun _ _ _ h => h) (Or.inr ⟨by rfl, rfl⟩) ?_ ?_
       rotate_left
       ·simp only [Act.put, qa, qb, qc, i64_w, i32_w]
        rfl
       refine pure_ (i := 9) (N := some 24) (v := undef) (a' := ?_) #[o,o,o,o,o,o,o,o,o,o,z,z,z,z,z] rfl rfl (any_of HT_.out (by kernel_rfl)) (fun _ _ _ h => h) (Or.inr ⟨by rfl, rfl⟩) ?_ ?_
       rotate_left
       ·simp only [Act.put, qa, qb, qc, i64_w, i32_w]
        rfl
       refine pure_ (i := 10) (N := some 25) (v := undef) (a' := ?_) #[o,o,o,o,o,o,o,o,o,o,o,z,z,z,z] rfl rfl (any_of HT_.out (by kernel_rfl)) (fun _ _ _ h => h) (Or.inr ⟨by rfl, rfl⟩) ?_ ?_
       rotate_left
       ·simp only [Act.put, qa, qb, qc, i64_w, i32_w]
        rfl
       refine pure_ (i := 11) (N := some 26) (v := undef) (a' := ?_) #[o,o,o,o,o,o,o,o,o,o,o,o,z,z,z] rfl rfl (any_of HT_.out (by kernel_rfl)) (fun _ _ _ h => h) (Or.inr ⟨by rfl, rfl⟩) ?_ ?_
       rotate_left
       ·simp only [Act.put, qa, qb, qc, i64_w, i32_w]
        rfl
       refine pure_ (i := 12) (N := some 27) (v := undef) (a' := ?_) #[o,o,o,o,o,o,o,o,o,o,o,o,o,z,z] rfl rfl (any_of HT_.out (by kernel_rfl)) (fun _ _ _ h => h) (Or.inr ⟨by rfl, rfl⟩) ?_ ?_
       rotate_left
       ·simp only [Act.put, qa, qb, qc, i64_w, i32_w]
        rfl
       refine pure_ (i := 13) (N := some 28) (v := undef) (a' := ?_) #[o,o,o,o,o,o,o,o,o,o,o,o,o,o,z] rfl rfl (any_of HT_.out (by kernel_rfl)) (fun _ _ _ h => h) (Or.inr ⟨by rfl, rfl⟩) ?_ ?_
       rotate_left
       ·simp only [Act.put, qa, qb, qc, i64_w, i32_w]
        rfl
       refine pure_ (i := 14) (N := some 29) (v := ?_) (a' := ?_) #[o,o,o,o,o,o,o,o,o,o,o,o,o,o,o] rfl rfl (any_of HT_.out (by kernel_rfl)) (fun _ _ _ h => h) (Or.inl ⟨by rfl, ?_⟩) ?_ ?_
       rotate_left
       ·intro w'
        go_simp
        with_reducible rfl
       rotate_left
       ·simp only [Act.put, qa, qb, qc, i64_w, i32_w]
        rfl
       refine done_ (done_of HT_.out (by kernel_rfl)) ?_
       try go_wp2
       go_roundg k1
       case measure => have := HK1.out; omega
       case rel => exact ⟨(x5_1), (wrap64 (x10_1 + 1)), (by first | rfl | (simp; done) | (simp [*]; done)), (by first | rfl | (simp; done) | (simp [*]; done)), H', ⟨by have := HK1.out; omega⟩, ⟨bB BK595.out⟩, ⟨sB HB.out⟩⟩
     ·rw [if_neg c6] at H
      exact absurd H (by simp)
    ·rw [if_neg c5] at H
     exact absurd H (by simp)
   ·rw [if_neg c4] at H
    have c4b0 : decide (x10_1 < (l0.length : Int)) = false := decide_eq_false c4
    clear c4
    obtain rfl := Option.some.inj H
    go_wp2
    go_ret
    exact ⟨by first | rfl | (simp [errW_none, errW_some] <;> rfl) | (simp [*, errW_none, errW_some] <;> rfl), sB HB.out⟩

end Go.Proofs.Ytepndcpncndjdaa.QS
