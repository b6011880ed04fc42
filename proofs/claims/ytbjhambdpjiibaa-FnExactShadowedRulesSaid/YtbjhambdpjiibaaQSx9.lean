/- Go functions as Lean functions, each with its walk; printed by a program of this session (a scratch copy of print.py that follows nested field addresses and tells a law for the answer true). -/
import Derived.Test.YtbjhambdpjiibaaQSx0
import Derived.Test.YtbjhambdpjiibaaQSx6
import Derived.Test.YtbjhambdpjiibaaQSx8
import Derived.Test.YtbjhambdpjiibaaQSxM0
namespace Go.Proofs.Ytbjhambdpjiibaa.QS
open Go.RowKit Go.Proofs.YtbjhambdpjiibaaW.PrintWords Go.Proofs.YtbjhambdpjiibaaW.PrintLast Go.Proofs.YtbjhambdpjiibaaW.PrintMore Go.Proofs.Ytbjhambdpjiibaa.Short
attribute [local go_sem] max2_int min2_int max_two min_two max_three min_three max_four min_four   -- for this text's walks alone
set_option linter.unusedVariables false
set_option linter.unusedSimpArgs false

/-! ### spec_IsShadowed: function 7 -/
mutual
def spec_IsShadowed.j0 : Nat → List (S46) → Int → Bool → Option (Bool)
 | 0, _, _, _ => none
 | k + 1, x0, x1, x19 => if x19 = true then (some false) else (spec_IsShadowed.l0 k x0 x1 0)
def spec_IsShadowed.l0 : Nat → List (S46) → Int → Int → Option (Bool)
 | 0, _, _, _ => none
 | k + 1, x0, x1, x5 => if x5 < (x0.length : Int) then (if 0 ≤ x5 then ((spec_IsRule.f ((rd_T46 x0 x5).f0) ((rd_T46 x0 x5).f1) ((rd_T46 x0 x5).f2.f0) ((rd_T46 x0 x5).f2.f1) ((rd_T46 x0 x5).f3) ((rd_T46 x0 x5).f4) ((rd_T46 x0 x5).f5.f0) ((rd_T46 x0 x5).f5.f1)).bind fun t124 => (if t124 = true then (if 0 ≤ x1 then (if x1 < (x0.length : Int) then ((spec_IsBefore.f ((rd_T46 x0 x5).f0) ((rd_T46 x0 x5).f1) ((rd_T46 x0 x5).f2.f0) ((rd_T46 x0 x5).f2.f1) ((rd_T46 x0 x5).f3) ((rd_T46 x0 x5).f4) ((rd_T46 x0 x5).f5.f0) ((rd_T46 x0 x5).f5.f1) ((rd_T46 x0 x1).f0) ((rd_T46 x0 x1).f1) ((rd_T46 x0 x1).f2.f0) ((rd_T46 x0 x1).f2.f1) ((rd_T46 x0 x1).f3) ((rd_T46 x0 x1).f4) ((rd_T46 x0 x1).f5.f0) ((rd_T46 x0 x1).f5.f1)).bind fun t127 => (if t127 = true then ((spec_IsNarrower.f ((rd_T46 x0 x1).f2.f0) ((rd_T46 x0 x1).f2.f1) ((rd_T46 x0 x5).f2.f0) ((rd_T46 x0 x5).f2.f1)).bind fun t130 => (if t130 = true then (if ((rd_T46 x0 x5).f3) = 0 then (some true) else (if ((rd_T46 x0 x5).f3) = ((rd_T46 x0 x1).f3) then (some true) else (spec_IsShadowed.l0 k x0 x1 (wrap64 (x5 + 1))))) else (spec_IsShadowed.l0 k x0 x1 (wrap64 (x5 + 1))))) else (spec_IsShadowed.l0 k x0 x1 (wrap64 (x5 + 1))))) else (none)) else (none)) else (spec_IsShadowed.l0 k x0 x1 (wrap64 (x5 + 1))))) else (none)) else (some false)
end
def spec_IsShadowed.f (k : Nat) (l0 : List (S46)) (a1 : Int) : Option (Bool) := (spec_l1In.f a1 0 (wrap64 ((l0.length : Int) - 1))).bind fun t120 => (if t120 = true then (if 0 ≤ a1 then (if a1 < (l0.length : Int) then ((spec_IsRule.f ((rd_T46 l0 a1).f0) ((rd_T46 l0 a1).f1) ((rd_T46 l0 a1).f2.f0) ((rd_T46 l0 a1).f2.f1) ((rd_T46 l0 a1).f3) ((rd_T46 l0 a1).f4) ((rd_T46 l0 a1).f5.f0) ((rd_T46 l0 a1).f5.f1)).bind fun t122 => (spec_IsShadowed.j0 k l0 a1 (!t122))) else (none)) else (none)) else (spec_IsShadowed.j0 k l0 a1 true))
theorem spec_IsShadowed.mono_l : ∀ k, (∀ y0 y1 y2, LeO (spec_IsShadowed.j0 k y0 y1 y2) (spec_IsShadowed.j0 (k + 1) y0 y1 y2)) ∧ (∀ y0 y1 y2, LeO (spec_IsShadowed.l0 k y0 y1 y2) (spec_IsShadowed.l0 (k + 1) y0 y1 y2))
 | 0 => ⟨fun _ _ _ r h => by simp [spec_IsShadowed.j0] at h, fun _ _ _ r h => by simp [spec_IsShadowed.l0] at h⟩
 | k + 1 => by
  obtain ⟨ih0, ih1⟩ := spec_IsShadowed.mono_l k
  refine ⟨?_, ?_⟩
  ·intro y0 y1 y2
   unfold spec_IsShadowed.j0
   repeat' first
   | (with_reducible exact ih0 _ _ _)
   | (with_reducible exact ih1 _ _ _)
   | (with_reducible exact LeO.refl _)
   | (with_reducible exact LeO.none _)
   | (with_reducible refine LeO.ite ?_ ?_)
   | (with_reducible refine LeO.bind ?_ (fun _ => ?_))
   | exact ih0 _ _ _
   | exact ih1 _ _ _
   | exact LeO.none _
   | refine LeO.ite ?_ ?_
   | refine LeO.bind ?_ (fun _ => ?_)
  ·intro y0 y1 y2
   unfold spec_IsShadowed.l0
   repeat' first
   | (with_reducible exact ih0 _ _ _)
   | (with_reducible exact ih1 _ _ _)
   | (with_reducible exact LeO.refl _)
   | (with_reducible exact LeO.none _)
   | (with_reducible refine LeO.ite ?_ ?_)
   | (with_reducible refine LeO.bind ?_ (fun _ => ?_))
   | exact ih0 _ _ _
   | exact ih1 _ _ _
   | exact LeO.none _
   | refine LeO.ite ?_ ?_
   | refine LeO.bind ?_ (fun _ => ?_)
theorem spec_IsShadowed.mono : ∀ a0 a1 k, LeO (spec_IsShadowed.f k a0 a1) (spec_IsShadowed.f (k + 1) a0 a1) := by
 intro a0 a1 k
 obtain ⟨ih0, ih1⟩ := spec_IsShadowed.mono_l k
 unfold spec_IsShadowed.f
 repeat' first
   | (with_reducible exact ih0 _ _ _)
   | (with_reducible exact ih1 _ _ _)
   | (with_reducible exact LeO.refl _)
   | (with_reducible exact LeO.none _)
   | (with_reducible refine LeO.ite ?_ ?_)
   | (with_reducible refine LeO.bind ?_ (fun _ => ?_))
   | exact ih0 _ _ _
   | exact ih1 _ _ _
   | exact LeO.none _
   | refine LeO.ite ?_ ?_
   | refine LeO.bind ?_ (fun _ => ?_)
def spec_IsShadowed.T6 : Bool × List (List Nat × List Nat) := (true, [([], []), ([], []), ([0, 1], [0, 1]), ([2], [2]), ([3], [3]), ([4, 4], [4]), ([5], [5]), ([5], [5]), ([6, 7, 5], [5, 6, 7]), ([8, 5], [5, 8]), ([5], [5]), ([5], [5]), ([10, 11, 5], [5, 10, 11]), ([12, 5], [5, 12]), ([9, 13, 5, 5], [5, 9, 13]), ([5, 14], [5, 14]), ([15, 14], [15]), ([16], [16]), ([16], [16]), ([17, 18, 16], [16, 17, 18]), ([19, 16], [16, 19]), ([20, 16], [16, 20]), ([16], [16]), ([16], [16]), ([22, 23, 16], [16, 22, 23]), ([24, 16], [16, 24]), ([25, 16], [16, 25]), ([21, 26, 16, 16], [16, 21, 26]), ([16, 27], [16, 27]), ([28, 27], [28]), ([29], [29]), ([29], [29]), ([30, 31, 29], [29, 30, 31]), ([32, 29], [29, 32]), ([33, 29], [29, 33]), ([34, 29], [29, 34]), ([35, 29, 29], [29, 35]), ([36], [36]), ([36], [36]), ([37, 38, 36], [36, 37, 38]), ([39, 36], [36, 39]), ([40, 36], [36, 40]), ([36], [36]), ([36], [36]), ([42, 43, 36], [36, 42, 43]), ([44, 36], [36, 44]), ([45, 36], [36, 45]), ([41, 46, 36], [36, 41, 46]), ([36, 47, 29], [29, 36, 47]), ([29, 48], [29, 48])])
def spec_IsShadowed.B6 : List Nat := [0, 0, 3, 7, 15, 31, 63, 63, 255, 511, 63, 63, 3135, 7231, 16383, 32767, 65535, 131071, 131071, 524287, 1048575, 2097151, 131071, 131071, 12713983, 29491199, 63045631, 134217727, 268435455, 536870911, 1073741823, 1073741823, 4294967295, 8589934591, 17179869183, 34359738367, 68719476735, 137438953471, 137438953471, 549755813887, 1099511627775, 2199023255551, 137438953471, 137438953471, 13331578486783, 30923764531199, 66108136620031, 140737488355327, 281474976710655, 562949953421311]
theorem spec_IsShadowed.tab6 : rtab .any (opsOf Try.f7 6) = spec_IsShadowed.T6 := by kernel_rfl
theorem spec_IsShadowed.bits6 : waitsOk spec_IsShadowed.T6.2 spec_IsShadowed.B6 = true := by kernel_rfl
set_option maxHeartbeats 8000000 in
set_option maxRecDepth 100000 in
theorem spec_IsShadowed.calls (k : Nat) (A0 : Option Addr) (c0 : Nat) (l0 : List (S46)) (a1 : Int) (r : Bool) (w : World) (hr0 : Kd.C k46 w A0 l0.length l0) (hc0 : l0.length ≤ c0) (h : spec_IsShadowed.f k l0 a1 = some r) :
  Calls Try.prog 7 #[.slice A0 l0.length c0, .int .i64 a1] w fun e w' => e = .returned (.bool r) ∧ Below w.heap.size w w' := by
 have hu46 := Try.underlying46
 have hu43 := Try.underlying43
 have HR0 := Aside0.mk hr0
 have HC0 := Aside0.mk hc0
 clear hr0 hc0
 have HB := am (Below.refl w.heap.size w)
 have H : ((spec_l1In.f a1 0 (wrap64 ((l0.length : Int) - 1))).bind fun t120 => (if t120 = true then (if 0 ≤ a1 then (if a1 < (l0.length : Int) then ((spec_IsRule.f ((rd_T46 l0 a1).f0) ((rd_T46 l0 a1).f1) ((rd_T46 l0 a1).f2.f0) ((rd_T46 l0 a1).f2.f1) ((rd_T46 l0 a1).f3) ((rd_T46 l0 a1).f4) ((rd_T46 l0 a1).f5.f0) ((rd_T46 l0 a1).f5.f1)).bind fun t122 => (spec_IsShadowed.j0 k l0 a1 (!t122))) else (none)) else (none)) else (spec_IsShadowed.j0 k l0 a1 true))) = some r := h
 clear h
 have HC3 := Aside0.mk H
 clear H
 go_enter Try.func7, Try.ntmps7
 go_upto_region 1 with (fail)
 go_cut [19] (fun v19 wc => ∃ (kq : Nat) (x19_2 : Bool), v19 = .bool x19_2 ∧ Aside0 (spec_IsShadowed.j0 kq l0 a1 x19_2 = some r) ∧ Aside0 (kq ≤ k) ∧ Aside0 (Below w.heap.size w wc))
 case first =>
  have H := HC3.out
  clear HC3
  replace H := Option.bind_eq_some_iff.mp H
  obtain ⟨t120, A40, H⟩ := H
  replace H : (if t120 = true then (if 0 ≤ a1 then (if a1 < (l0.length : Int) then ((spec_IsRule.f ((rd_T46 l0 a1).f0) ((rd_T46 l0 a1).f1) ((rd_T46 l0 a1).f2.f0) ((rd_T46 l0 a1).f2.f1) ((rd_T46 l0 a1).f3) ((rd_T46 l0 a1).f4) ((rd_T46 l0 a1).f5.f0) ((rd_T46 l0 a1).f5.f1)).bind fun t122 => (spec_IsShadowed.j0 k l0 a1 (!t122))) else (none)) else (none)) else (spec_IsShadowed.j0 k l0 a1 true)) = some r := H
  have A4 := Aside0.mk A40
  clear A40
  by_cases c5 : t120 = true
  ·subst c5
   have H1 : (if 0 ≤ a1 then (if a1 < (l0.length : Int) then ((spec_IsRule.f ((rd_T46 l0 a1).f0) ((rd_T46 l0 a1).f1) ((rd_T46 l0 a1).f2.f0) ((rd_T46 l0 a1).f2.f1) ((rd_T46 l0 a1).f3) ((rd_T46 l0 a1).f4) ((rd_T46 l0 a1).f5.f0) ((rd_T46 l0 a1).f5.f1)).bind fun t122 => (spec_IsShadowed.j0 k l0 a1 (!t122))) else (none)) else (none)) = some r := by rw [if_pos rfl] at H; exact H
   clear H
   have H := H1
   clear H1
   by_cases c6 : 0 ≤ a1
   ·rw [if_pos c6] at H
    have c6b0 : decide (0 ≤ a1) = true := decide_eq_true c6
    clear c6
    (first | rw [c6b0] | (simp only [i64_w, i32_w]; rw [c6b0]) | skip)
    by_cases c7 : a1 < (l0.length : Int)
    ·rw [if_pos c7] at H
     have c7b0 : decide (a1 < (l0.length : Int)) = true := decide_eq_true c7
     clear c7
     replace H := Option.bind_eq_some_iff.mp H
     obtain ⟨t122, A80, H⟩ := H
     replace H : (spec_IsShadowed.j0 k l0 a1 (!t122)) = some r := H
     have A8 := Aside0.mk A80
     clear A80
     have H' := Aside0.mk H
     clear H
     go_wp2_with (first | ((with_reducible refine gate_callee (f := 24) rfl ?_); refine goesL_ (some 10) rfl rfl Try.func24 (by kernel_rfl) rfl #[.int .i64 a1, .int .i64 0, .int .i64 (wrap64 ((l0.length : Int) - 1))] rfl (by (try simp only [List.map_toArray, List.map_cons, List.map_nil]); first | done | rfl | (simp only [List.length_drop, List.length_take]; rfl)) ?_; (with_reducible refine (spec_l1In.calls a1 0 (wrap64 ((l0.length : Int) - 1)) true _ A4.out).mono ?_); rintro e w' ⟨rfl, ⟨nd, rfl⟩⟩; refine ⟨_, rfl, ?_⟩; have p121 : 0 ≤ (a1 : Int) := of_decide_eq_true (by first | (with_reducible assumption) | assumption); have q121 : a1 < (l0.length : Int) := of_decide_eq_true (by first | (with_reducible assumption) | assumption); obtain ⟨ad121, e121, hx121_0, hx121_1, hx121_2, hx121_3, hx121_4, hx121_5, hx121_6, hx121_7⟩ := at_T46 HR0.out a1 p121 q121; cases e121; replace hx121_0 := hc_ HB hx121_0; replace hx121_1 := hc_ HB hx121_1; replace hx121_2 := hc_ HB hx121_2; replace hx121_3 := hc_ HB hx121_3; replace hx121_4 := hc_ HB hx121_4; replace hx121_5 := hc_ HB hx121_5; replace hx121_6 := hc_ HB hx121_6; replace hx121_7 := hc_ HB hx121_7; replace p121 := eq_true p121; replace q121 := eq_true q121) | (go_at_call 25; (with_reducible refine (spec_IsRule.calls ((rd_T46 l0 a1).f0) ((rd_T46 l0 a1).f1) ((rd_T46 l0 a1).f2.f0) ((rd_T46 l0 a1).f2.f1) ((rd_T46 l0 a1).f3) ((rd_T46 l0 a1).f4) ((rd_T46 l0 a1).f5.f0) ((rd_T46 l0 a1).f5.f1) t122 _ A8.out).mono ?_); rintro e w9 ⟨rfl, hb⟩; replace HB := am (below_step (sB HB.out) hb); (try clear hb); (try clear hb2); (try clear hk); (try clear hi)))
     go_meet
     case rel => exact ⟨_, (!t122), (by first | rfl | (simp; done) | (simp [*]; done)), H', ⟨by first | omega | exact Nat.le_refl _⟩, ⟨sB HB.out⟩⟩
    ·rw [if_neg c7] at H
     exact absurd H (by simp)
   ·rw [if_neg c6] at H
    exact absurd H (by simp)
  ·replace c5 := Bool.eq_false_iff.mpr c5
   subst c5
   have H1 : (spec_IsShadowed.j0 k l0 a1 true) = some r := by rw [if_neg (show ¬ (false = true) by decide)] at H; exact H
   clear H
   have H := H1
   clear H1
   have H' := Aside0.mk H
   clear H
   go_wp2_with (first | ((with_reducible refine gate_callee (f := 24) rfl ?_); refine goesL_ (some 10) rfl rfl Try.func24 (by kernel_rfl) rfl #[.int .i64 a1, .int .i64 0, .int .i64 (wrap64 ((l0.length : Int) - 1))] rfl (by (try simp only [List.map_toArray, List.map_cons, List.map_nil]); first | done | rfl | (simp only [List.length_drop, List.length_take]; rfl)) ?_; (with_reducible refine (spec_l1In.calls a1 0 (wrap64 ((l0.length : Int) - 1)) false _ A4.out).mono ?_); rintro e w' ⟨rfl, ⟨nd, rfl⟩⟩; refine ⟨_, rfl, ?_⟩))
   go_meet
   case rel => exact ⟨_, (true), (by first | rfl | (simp; done) | (simp [*]; done)), H', ⟨by first | omega | exact Nat.le_refl _⟩, ⟨sB HB.out⟩⟩
 case rest =>
  clear HC3
  try clear p1
  try clear q1
  try clear hx1
  try clear c2
  try clear p2
  try clear c5
  try clear c6
  try clear c6b0
  try clear p6
  try clear c7
  try clear c7b0
  try clear hx121_0
  try clear hx121_1
  try clear hx121_2
  try clear hx121_3
  try clear hx121_4
  try clear hx121_5
  try clear hx121_6
  try clear hx121_7
  try clear p121
  try clear q121
  obtain ⟨kq, x19_2, rfl, HA, HJ2, HB⟩ := hcut
  cases kq with
  | zero => exact absurd HA.out (by simp [spec_IsShadowed.j0])
  | succ kj2 =>
   have H := HA.out
   clear HA
   simp only [spec_IsShadowed.j0] at H
   by_cases c10 : x19_2 = true
   ·subst c10
    have H1 : (some false) = some r := by rw [if_pos rfl] at H; exact H
    clear H
    have H := H1
    clear H1
    obtain rfl := Option.some.inj H
    go_wp2
    go_ret
    exact ⟨by first | rfl | (simp [errW_none, errW_some] <;> rfl) | (simp [*, errW_none, errW_some] <;> rfl), sB HB.out⟩
   ·replace c10 := Bool.eq_false_iff.mpr c10
    subst c10
    have H1 : (spec_IsShadowed.l0 kj2 l0 a1 0) = some r := by rw [if_neg (show ¬ (false = true) by decide)] at H; exact H
    clear H
    have H := H1
    clear H1
    have H' := Aside0.mk H
    clear H
    go_wp2
    go_loopg [5] kj2 (fun kq v5 w' => ∃ (x5_2 : Int), v5 = .int .i64 x5_2 ∧ Aside0 (spec_IsShadowed.l0 kq l0 a1 x5_2 = some r) ∧ Aside0 (kq ≤ kj2) ∧ Aside0 (Below w.heap.size w w'))
    case atStart => exact ⟨(0), (by first | rfl | (simp; done) | (simp [*]; done)), H', ⟨Nat.le_refl _⟩, ⟨sB HB.out⟩⟩
    case round =>
     clear H'
     try clear c1
     try clear p1
     try clear q1
     try clear hx1
     try clear c2
     try clear p2
     try clear c5
     try clear c6
     try clear c6b0
     try clear p6
     try clear c7
     try clear c7b0
     try clear c10
     try clear hx121_0
     try clear hx121_1
     try clear hx121_2
     try clear hx121_3
     try clear hx121_4
     try clear hx121_5
     try clear hx121_6
     try clear hx121_7
     try clear p1
     try clear p121
     try clear p2
     try clear p6
     try clear q1
     try clear q121
     obtain ⟨x5_2, rfl, HA, HK2, HB⟩ := hrel
     cases gk with
     | zero => exact absurd HA.out (by simp [spec_IsShadowed.l0])
     | succ k2 =>
      have H := HA.out
      clear HA
      simp only [spec_IsShadowed.l0] at H
      by_cases c11 : x5_2 < (l0.length : Int)
      ·rw [if_pos c11] at H
       have c11b0 : decide (x5_2 < (l0.length : Int)) = true := decide_eq_true c11
       clear c11
       by_cases c12 : 0 ≤ x5_2
       ·rw [if_pos c12] at H
        have c12b0 : decide (0 ≤ x5_2) = true := decide_eq_true c12
        clear c12
        replace H := Option.bind_eq_some_iff.mp H
        obtain ⟨t124, A130, H⟩ := H
        replace H : (if t124 = true then (if 0 ≤ a1 then (if a1 < (l0.length : Int) then ((spec_IsBefore.f ((rd_T46 l0 x5_2).f0) ((rd_T46 l0 x5_2).f1) ((rd_T46 l0 x5_2).f2.f0) ((rd_T46 l0 x5_2).f2.f1) ((rd_T46 l0 x5_2).f3) ((rd_T46 l0 x5_2).f4) ((rd_T46 l0 x5_2).f5.f0) ((rd_T46 l0 x5_2).f5.f1) ((rd_T46 l0 a1).f0) ((rd_T46 l0 a1).f1) ((rd_T46 l0 a1).f2.f0) ((rd_T46 l0 a1).f2.f1) ((rd_T46 l0 a1).f3) ((rd_T46 l0 a1).f4) ((rd_T46 l0 a1).f5.f0) ((rd_T46 l0 a1).f5.f1)).bind fun t127 => (if t127 = true then ((spec_IsNarrower.f ((rd_T46 l0 a1).f2.f0) ((rd_T46 l0 a1).f2.f1) ((rd_T46 l0 x5_2).f2.f0) ((rd_T46 l0 x5_2).f2.f1)).bind fun t130 => (if t130 = true then (if ((rd_T46 l0 x5_2).f3) = 0 then (some true) else (if ((rd_T46 l0 x5_2).f3) = ((rd_T46 l0 a1).f3) then (some true) else (spec_IsShadowed.l0 k2 l0 a1 (wrap64 (x5_2 + 1))))) else (spec_IsShadowed.l0 k2 l0 a1 (wrap64 (x5_2 + 1))))) else (spec_IsShadowed.l0 k2 l0 a1 (wrap64 (x5_2 + 1))))) else (none)) else (none)) else (spec_IsShadowed.l0 k2 l0 a1 (wrap64 (x5_2 + 1)))) = some r := H
        have A13 := Aside0.mk A130
        clear A130
        by_cases c14 : t124 = true
        ·subst c14
         have H1 : (if 0 ≤ a1 then (if a1 < (l0.length : Int) then ((spec_IsBefore.f ((rd_T46 l0 x5_2).f0) ((rd_T46 l0 x5_2).f1) ((rd_T46 l0 x5_2).f2.f0) ((rd_T46 l0 x5_2).f2.f1) ((rd_T46 l0 x5_2).f3) ((rd_T46 l0 x5_2).f4) ((rd_T46 l0 x5_2).f5.f0) ((rd_T46 l0 x5_2).f5.f1) ((rd_T46 l0 a1).f0) ((rd_T46 l0 a1).f1) ((rd_T46 l0 a1).f2.f0) ((rd_T46 l0 a1).f2.f1) ((rd_T46 l0 a1).f3) ((rd_T46 l0 a1).f4) ((rd_T46 l0 a1).f5.f0) ((rd_T46 l0 a1).f5.f1)).bind fun t127 => (if t127 = true then ((spec_IsNarrower.f ((rd_T46 l0 a1).f2.f0) ((rd_T46 l0 a1).f2.f1) ((rd_T46 l0 x5_2).f2.f0) ((rd_T46 l0 x5_2).f2.f1)).bind fun t130 => (if t130 = true then (if ((rd_T46 l0 x5_2).f3) = 0 then (some true) else (if ((rd_T46 l0 x5_2).f3) = ((rd_T46 l0 a1).f3) then (some true) else (spec_IsShadowed.l0 k2 l0 a1 (wrap64 (x5_2 + 1))))) else (spec_IsShadowed.l0 k2 l0 a1 (wrap64 (x5_2 + 1))))) else (spec_IsShadowed.l0 k2 l0 a1 (wrap64 (x5_2 + 1))))) else (none)) else (none)) = some r := by rw [if_pos rfl] at H; exact H
         clear H
         have H := H1
         clear H1
         by_cases c15 : 0 ≤ a1
         ·rw [if_pos c15] at H
          have c15b0 : decide (0 ≤ a1) = true := decide_eq_true c15
          clear c15
          by_cases c16 : a1 < (l0.length : Int)
          ·rw [if_pos c16] at H
           have c16b0 : decide (a1 < (l0.length : Int)) = true := decide_eq_true c16
           clear c16
           replace H := Option.bind_eq_some_iff.mp H
           obtain ⟨t127, A170, H⟩ := H
           replace H : (if t127 = true then ((spec_IsNarrower.f ((rd_T46 l0 a1).f2.f0) ((rd_T46 l0 a1).f2.f1) ((rd_T46 l0 x5_2).f2.f0) ((rd_T46 l0 x5_2).f2.f1)).bind fun t130 => (if t130 = true then (if ((rd_T46 l0 x5_2).f3) = 0 then (some true) else (if ((rd_T46 l0 x5_2).f3) = ((rd_T46 l0 a1).f3) then (some true) else (spec_IsShadowed.l0 k2 l0 a1 (wrap64 (x5_2 + 1))))) else (spec_IsShadowed.l0 k2 l0 a1 (wrap64 (x5_2 + 1))))) else (spec_IsShadowed.l0 k2 l0 a1 (wrap64 (x5_2 + 1)))) = some r := H
           have A17 := Aside0.mk A170
           clear A170
           by_cases c18 : t127 = true
           ·subst c18
            have H1 : ((spec_IsNarrower.f ((rd_T46 l0 a1).f2.f0) ((rd_T46 l0 a1).f2.f1) ((rd_T46 l0 x5_2).f2.f0) ((rd_T46 l0 x5_2).f2.f1)).bind fun t130 => (if t130 = true then (if ((rd_T46 l0 x5_2).f3) = 0 then (some true) else (if ((rd_T46 l0 x5_2).f3) = ((rd_T46 l0 a1).f3) then (some true) else (spec_IsShadowed.l0 k2 l0 a1 (wrap64 (x5_2 + 1))))) else (spec_IsShadowed.l0 k2 l0 a1 (wrap64 (x5_2 + 1))))) = some r := by rw [if_pos rfl] at H; exact H
            clear H
            have H := H1
            clear H1
            replace H := Option.bind_eq_some_iff.mp H
            obtain ⟨t130, A190, H⟩ := H
            replace H : (if t130 = true then (if ((rd_T46 l0 x5_2).f3) = 0 then (some true) else (if ((rd_T46 l0 x5_2).f3) = ((rd_T46 l0 a1).f3) then (some true) else (spec_IsShadowed.l0 k2 l0 a1 (wrap64 (x5_2 + 1))))) else (spec_IsShadowed.l0 k2 l0 a1 (wrap64 (x5_2 + 1)))) = some r := H
            have A19 := Aside0.mk A190
            clear A190
            by_cases c20 : t130 = true
            ·subst c20
             have H1 : (if ((rd_T46 l0 x5_2).f3) = 0 then (some true) else (if ((rd_T46 l0 x5_2).f3) = ((rd_T46 l0 a1).f3) then (some true) else (spec_IsShadowed.l0 k2 l0 a1 (wrap64 (x5_2 + 1))))) = some r := by rw [if_pos rfl] at H; exact H
             clear H
             have H := H1
             clear H1
             by_cases c21 : ((rd_T46 l0 x5_2).f3) = 0
             ·rw [if_pos c21] at H
              have c21b0 : (((rd_T46 l0 x5_2).f3) == 0) = true := beq_iff_eq.mpr c21
              have c21b1 : (((rd_T46 l0 x5_2).f3) != 0) = false := bne_eq_false_iff_eq.mpr c21
              clear c21
              obtain rfl := Option.some.inj H
              try go_wp2
              replace HB := am (below_drew1 HB.out)
              have p123 : 0 ≤ (x5_2 : Int) := of_decide_eq_true (by first | (with_reducible assumption) | assumption)
              have q123 : x5_2 < (l0.length : Int) := of_decide_eq_true (by first | (with_reducible assumption) | assumption)
              obtain ⟨ad123, e123, hx123_0, hx123_1, hx123_2, hx123_3, hx123_4, hx123_5, hx123_6, hx123_7⟩ := at_T46 HR0.out x5_2 p123 q123
              have hw123_7 := hx123_7
              have hw123_6 := hx123_6
              have hw123_5 := hx123_5
              have hw123_4 := hx123_4
              have hw123_3 := hx123_3
              have hw123_2 := hx123_2
              have hw123_1 := hx123_1
              have hw123_0 := hx123_0
              cases e123
              replace hx123_0 := hc_ HB hx123_0
              replace hx123_1 := hc_ HB hx123_1
              replace hx123_2 := hc_ HB hx123_2
              replace hx123_3 := hc_ HB hx123_3
              replace hx123_4 := hc_ HB hx123_4
              replace hx123_5 := hc_ HB hx123_5
              replace hx123_6 := hc_ HB hx123_6
              replace hx123_7 := hc_ HB hx123_7
              replace p123 := eq_true p123
              replace q123 := eq_true q123
              have p125 : 0 ≤ (x5_2 : Int) := of_decide_eq_true (by first | (with_reducible assumption) | assumption)
              have q125 : x5_2 < (l0.length : Int) := of_decide_eq_true (by first | (with_reducible assumption) | assumption)
              obtain ⟨ad125, e125, hx125_0, hx125_1, hx125_2, hx125_3, hx125_4, hx125_5, hx125_6, hx125_7⟩ := at_T46 HR0.out x5_2 p125 q125
              have hw125_7 := hx125_7
              have hw125_6 := hx125_6
              have hw125_5 := hx125_5
              have hw125_4 := hx125_4
              have hw125_3 := hx125_3
              have hw125_2 := hx125_2
              have hw125_1 := hx125_1
              have hw125_0 := hx125_0
              obtain rfl : ad123 = ad125 := (by injection e125)
              replace hx125_0 := hc_ HB hx125_0
              replace hx125_1 := hc_ HB hx125_1
              replace hx125_2 := hc_ HB hx125_2
              replace hx125_3 := hc_ HB hx125_3
              replace hx125_4 := hc_ HB hx125_4
              replace hx125_5 := hc_ HB hx125_5
              replace hx125_6 := hc_ HB hx125_6
              replace hx125_7 := hc_ HB hx125_7
              replace p125 := eq_true p125
              replace q125 := eq_true q125
              have p126 : 0 ≤ (a1 : Int) := of_decide_eq_true (by first | (with_reducible assumption) | assumption)
              have q126 : a1 < (l0.length : Int) := of_decide_eq_true (by first | (with_reducible assumption) | assumption)
              obtain ⟨ad126, e126, hx126_0, hx126_1, hx126_2, hx126_3, hx126_4, hx126_5, hx126_6, hx126_7⟩ := at_T46 HR0.out a1 p126 q126
              have hw126_7 := hx126_7
              have hw126_6 := hx126_6
              have hw126_5 := hx126_5
              have hw126_4 := hx126_4
              have hw126_3 := hx126_3
              have hw126_2 := hx126_2
              have hw126_1 := hx126_1
              have hw126_0 := hx126_0
              obtain rfl : ad123 = ad126 := (by injection e126)
              replace hx126_0 := hc_ HB hx126_0
              replace hx126_1 := hc_ HB hx126_1
              replace hx126_2 := hc_ HB hx126_2
              replace hx126_3 := hc_ HB hx126_3
              replace hx126_4 := hc_ HB hx126_4
              replace hx126_5 := hc_ HB hx126_5
              replace hx126_6 := hc_ HB hx126_6
              replace hx126_7 := hc_ HB hx126_7
              replace p126 := eq_true p126
              replace q126 := eq_true q126
              have p128 : 0 ≤ (a1 : Int) := of_decide_eq_true (by first | (with_reducible assumption) | assumption)
              have q128 : a1 < (l0.length : Int) := of_decide_eq_true (by first | (with_reducible assumption) | assumption)
              obtain ⟨ad128, e128, hx128_0, hx128_1, hx128_2, hx128_3, hx128_4, hx128_5, hx128_6, hx128_7⟩ := at_T46 HR0.out a1 p128 q128
              have hw128_7 := hx128_7
              have hw128_6 := hx128_6
              have hw128_5 := hx128_5
              have hw128_4 := hx128_4
              have hw128_3 := hx128_3
              have hw128_2 := hx128_2
              have hw128_1 := hx128_1
              have hw128_0 := hx128_0
              obtain rfl : ad123 = ad128 := (by injection e128)
              replace hx128_0 := hc_ HB hx128_0
              replace hx128_1 := hc_ HB hx128_1
              replace hx128_2 := hc_ HB hx128_2
              replace hx128_3 := hc_ HB hx128_3
              replace hx128_4 := hc_ HB hx128_4
              replace hx128_5 := hc_ HB hx128_5
              replace hx128_6 := hc_ HB hx128_6
              replace hx128_7 := hc_ HB hx128_7
              replace p128 := eq_true p128
              replace q128 := eq_true q128
              have p129 : 0 ≤ (x5_2 : Int) := of_decide_eq_true (by first | (with_reducible assumption) | assumption)
              have q129 : x5_2 < (l0.length : Int) := of_decide_eq_true (by first | (with_reducible assumption) | assumption)
              obtain ⟨ad129, e129, hx129_0, hx129_1, hx129_2, hx129_3, hx129_4, hx129_5, hx129_6, hx129_7⟩ := at_T46 HR0.out x5_2 p129 q129
              have hw129_7 := hx129_7
              have hw129_6 := hx129_6
              have hw129_5 := hx129_5
              have hw129_4 := hx129_4
              have hw129_3 := hx129_3
              have hw129_2 := hx129_2
              have hw129_1 := hx129_1
              have hw129_0 := hx129_0
              obtain rfl : ad123 = ad129 := (by injection e129)
              replace hx129_0 := hc_ HB hx129_0
              replace hx129_1 := hc_ HB hx129_1
              replace hx129_2 := hc_ HB hx129_2
              replace hx129_3 := hc_ HB hx129_3
              replace hx129_4 := hc_ HB hx129_4
              replace hx129_5 := hc_ HB hx129_5
              replace hx129_6 := hc_ HB hx129_6
              replace hx129_7 := hc_ HB hx129_7
              replace p129 := eq_true p129
              replace q129 := eq_true q129
              have p131 : 0 ≤ (x5_2 : Int) := of_decide_eq_true (by first | (with_reducible assumption) | assumption)
              have q131 : x5_2 < (l0.length : Int) := of_decide_eq_true (by first | (with_reducible assumption) | assumption)
              obtain ⟨ad131, e131, hx131_0, hx131_1, hx131_2, hx131_3, hx131_4, hx131_5, hx131_6, hx131_7⟩ := at_T46 HR0.out x5_2 p131 q131
              have hw131_7 := hx131_7
              have hw131_6 := hx131_6
              have hw131_5 := hx131_5
              have hw131_4 := hx131_4
              have hw131_3 := hx131_3
              have hw131_2 := hx131_2
              have hw131_1 := hx131_1
              have hw131_0 := hx131_0
              obtain rfl : ad123 = ad131 := (by injection e131)
              replace hx131_0 := hc_ HB hx131_0
              replace hx131_1 := hc_ HB hx131_1
              replace hx131_2 := hc_ HB hx131_2
              replace hx131_3 := hc_ HB hx131_3
              replace hx131_4 := hc_ HB hx131_4
              replace hx131_5 := hc_ HB hx131_5
              replace hx131_6 := hc_ HB hx131_6
              replace hx131_7 := hc_ HB hx131_7
              replace p131 := eq_true p131
              replace q131 := eq_true q131
              refine start_ (n := 50) (S := fun w' => w'.cell? (ad123.add ((x5_2).toNat * 8)) = some (.int .i64 ((rd_T46 l0 x5_2).f0)) ∧ w'.cell? ⟨(ad123.add ((x5_2).toNat * 8)).block, (ad123.add ((x5_2).toNat * 8)).off + 1, none⟩ = some (.int .i64 ((rd_T46 l0 x5_2).f1)) ∧ w'.cell? ⟨(ad123.add ((x5_2).toNat * 8)).block, (ad123.add ((x5_2).toNat * 8)).off + 2, none⟩ = some (.int .i64 ((rd_T46 l0 x5_2).f2.f0)) ∧ w'.cell? ⟨(ad123.add ((x5_2).toNat * 8)).block, (ad123.add ((x5_2).toNat * 8)).off + 3, none⟩ = some (.int .i64 ((rd_T46 l0 x5_2).f2.f1)) ∧ w'.cell? ⟨(ad123.add ((x5_2).toNat * 8)).block, (ad123.add ((x5_2).toNat * 8)).off + 4, none⟩ = some (.int .i64 ((rd_T46 l0 x5_2).f3)) ∧ w'.cell? ⟨(ad123.add ((x5_2).toNat * 8)).block, (ad123.add ((x5_2).toNat * 8)).off + 5, none⟩ = some (.int .i64 ((rd_T46 l0 x5_2).f4)) ∧ w'.cell? ⟨(ad123.add ((x5_2).toNat * 8)).block, (ad123.add ((x5_2).toNat * 8)).off + 6, none⟩ = some (.int .i64 ((rd_T46 l0 x5_2).f5.f0)) ∧ w'.cell? ⟨(ad123.add ((x5_2).toNat * 8)).block, (ad123.add ((x5_2).toNat * 8)).off + 7, none⟩ = some (.int .i64 ((rd_T46 l0 x5_2).f5.f1)) ∧ w'.cell? (ad123.add ((x5_2).toNat * 8)) = some (.int .i64 ((rd_T46 l0 x5_2).f0)) ∧ w'.cell? ⟨(ad123.add ((x5_2).toNat * 8)).block, (ad123.add ((x5_2).toNat * 8)).off + 1, none⟩ = some (.int .i64 ((rd_T46 l0 x5_2).f1)) ∧ w'.cell? ⟨(ad123.add ((x5_2).toNat * 8)).block, (ad123.add ((x5_2).toNat * 8)).off + 2, none⟩ = some (.int .i64 ((rd_T46 l0 x5_2).f2.f0)) ∧ w'.cell? ⟨(ad123.add ((x5_2).toNat * 8)).block, (ad123.add ((x5_2).toNat * 8)).off + 3, none⟩ = some (.int .i64 ((rd_T46 l0 x5_2).f2.f1)) ∧ w'.cell? ⟨(ad123.add ((x5_2).toNat * 8)).block, (ad123.add ((x5_2).toNat * 8)).off + 4, none⟩ = some (.int .i64 ((rd_T46 l0 x5_2).f3)) ∧ w'.cell? ⟨(ad123.add ((x5_2).toNat * 8)).block, (ad123.add ((x5_2).toNat * 8)).off + 5, none⟩ = some (.int .i64 ((rd_T46 l0 x5_2).f4)) ∧ w'.cell? ⟨(ad123.add ((x5_2).toNat * 8)).block, (ad123.add ((x5_2).toNat * 8)).off + 6, none⟩ = some (.int .i64 ((rd_T46 l0 x5_2).f5.f0)) ∧ w'.cell? ⟨(ad123.add ((x5_2).toNat * 8)).block, (ad123.add ((x5_2).toNat * 8)).off + 7, none⟩ = some (.int .i64 ((rd_T46 l0 x5_2).f5.f1)) ∧ w'.cell? (ad123.add ((a1).toNat * 8)) = some (.int .i64 ((rd_T46 l0 a1).f0)) ∧ w'.cell? ⟨(ad123.add ((a1).toNat * 8)).block, (ad123.add ((a1).toNat * 8)).off + 1, none⟩ = some (.int .i64 ((rd_T46 l0 a1).f1)) ∧ w'.cell? ⟨(ad123.add ((a1).toNat * 8)).block, (ad123.add ((a1).toNat * 8)).off + 2, none⟩ = some (.int .i64 ((rd_T46 l0 a1).f2.f0)) ∧ w'.cell? ⟨(ad123.add ((a1).toNat * 8)).block, (ad123.add ((a1).toNat * 8)).off + 3, none⟩ = some (.int .i64 ((rd_T46 l0 a1).f2.f1)) ∧ w'.cell? ⟨(ad123.add ((a1).toNat * 8)).block, (ad123.add ((a1).toNat * 8)).off + 4, none⟩ = some (.int .i64 ((rd_T46 l0 a1).f3)) ∧ w'.cell? ⟨(ad123.add ((a1).toNat * 8)).block, (ad123.add ((a1).toNat * 8)).off + 5, none⟩ = some (.int .i64 ((rd_T46 l0 a1).f4)) ∧ w'.cell? ⟨(ad123.add ((a1).toNat * 8)).block, (ad123.add ((a1).toNat * 8)).off + 6, none⟩ = some (.int .i64 ((rd_T46 l0 a1).f5.f0)) ∧ w'.cell? ⟨(ad123.add ((a1).toNat * 8)).block, (ad123.add ((a1).toNat * 8)).off + 7, none⟩ = some (.int .i64 ((rd_T46 l0 a1).f5.f1)) ∧ w'.cell? (ad123.add ((a1).toNat * 8)) = some (.int .i64 ((rd_T46 l0 a1).f0)) ∧ w'.cell? ⟨(ad123.add ((a1).toNat * 8)).block, (ad123.add ((a1).toNat * 8)).off + 1, none⟩ = some (.int .i64 ((rd_T46 l0 a1).f1)) ∧ w'.cell? ⟨(ad123.add ((a1).toNat * 8)).block, (ad123.add ((a1).toNat * 8)).off + 2, none⟩ = some (.int .i64 ((rd_T46 l0 a1).f2.f0)) ∧ w'.cell? ⟨(ad123.add ((a1).toNat * 8)).block, (ad123.add ((a1).toNat * 8)).off + 3, none⟩ = some (.int .i64 ((rd_T46 l0 a1).f2.f1)) ∧ w'.cell? ⟨(ad123.add ((a1).toNat * 8)).block, (ad123.add ((a1).toNat * 8)).off + 4, none⟩ = some (.int .i64 ((rd_T46 l0 a1).f3)) ∧ w'.cell? ⟨(ad123.add ((a1).toNat * 8)).block, (ad123.add ((a1).toNat * 8)).off + 5, none⟩ = some (.int .i64 ((rd_T46 l0 a1).f4)) ∧ w'.cell? ⟨(ad123.add ((a1).toNat * 8)).block, (ad123.add ((a1).toNat * 8)).off + 6, none⟩ = some (.int .i64 ((rd_T46 l0 a1).f5.f0)) ∧ w'.cell? ⟨(ad123.add ((a1).toNat * 8)).block, (ad123.add ((a1).toNat * 8)).off + 7, none⟩ = some (.int .i64 ((rd_T46 l0 a1).f5.f1)) ∧ w'.cell? (ad123.add ((x5_2).toNat * 8)) = some (.int .i64 ((rd_T46 l0 x5_2).f0)) ∧ w'.cell? ⟨(ad123.add ((x5_2).toNat * 8)).block, (ad123.add ((x5_2).toNat * 8)).off + 1, none⟩ = some (.int .i64 ((rd_T46 l0 x5_2).f1)) ∧ w'.cell? ⟨(ad123.add ((x5_2).toNat * 8)).block, (ad123.add ((x5_2).toNat * 8)).off + 2, none⟩ = some (.int .i64 ((rd_T46 l0 x5_2).f2.f0)) ∧ w'.cell? ⟨(ad123.add ((x5_2).toNat * 8)).block, (ad123.add ((x5_2).toNat * 8)).off + 3, none⟩ = some (.int .i64 ((rd_T46 l0 x5_2).f2.f1)) ∧ w'.cell? ⟨(ad123.add ((x5_2).toNat * 8)).block, (ad123.add ((x5_2).toNat * 8)).off + 4, none⟩ = some (.int .i64 ((rd_T46 l0 x5_2).f3)) ∧ w'.cell? ⟨(ad123.add ((x5_2).toNat * 8)).block, (ad123.add ((x5_2).toNat * 8)).off + 5, none⟩ = some (.int .i64 ((rd_T46 l0 x5_2).f4)) ∧ w'.cell? ⟨(ad123.add ((x5_2).toNat * 8)).block, (ad123.add ((x5_2).toNat * 8)).off + 6, none⟩ = some (.int .i64 ((rd_T46 l0 x5_2).f5.f0)) ∧ w'.cell? ⟨(ad123.add ((x5_2).toNat * 8)).block, (ad123.add ((x5_2).toNat * 8)).off + 7, none⟩ = some (.int .i64 ((rd_T46 l0 x5_2).f5.f1)) ∧ w'.cell? (ad123.add ((x5_2).toNat * 8)) = some (.int .i64 ((rd_T46 l0 x5_2).f0)) ∧ w'.cell? ⟨(ad123.add ((x5_2).toNat * 8)).block, (ad123.add ((x5_2).toNat * 8)).off + 1, none⟩ = some (.int .i64 ((rd_T46 l0 x5_2).f1)) ∧ w'.cell? ⟨(ad123.add ((x5_2).toNat * 8)).block, (ad123.add ((x5_2).toNat * 8)).off + 2, none⟩ = some (.int .i64 ((rd_T46 l0 x5_2).f2.f0)) ∧ w'.cell? ⟨(ad123.add ((x5_2).toNat * 8)).block, (ad123.add ((x5_2).toNat * 8)).off + 3, none⟩ = some (.int .i64 ((rd_T46 l0 x5_2).f2.f1)) ∧ w'.cell? ⟨(ad123.add ((x5_2).toNat * 8)).block, (ad123.add ((x5_2).toNat * 8)).off + 4, none⟩ = some (.int .i64 ((rd_T46 l0 x5_2).f3)) ∧ w'.cell? ⟨(ad123.add ((x5_2).toNat * 8)).block, (ad123.add ((x5_2).toNat * 8)).off + 5, none⟩ = some (.int .i64 ((rd_T46 l0 x5_2).f4)) ∧ w'.cell? ⟨(ad123.add ((x5_2).toNat * 8)).block, (ad123.add ((x5_2).toNat * 8)).off + 6, none⟩ = some (.int .i64 ((rd_T46 l0 x5_2).f5.f0)) ∧ w'.cell? ⟨(ad123.add ((x5_2).toNat * 8)).block, (ad123.add ((x5_2).toNat * 8)).off + 7, none⟩ = some (.int .i64 ((rd_T46 l0 x5_2).f5.f1))) (ds := []) #[z,z,z,z,z,z,z,z,z,z,z,z,z,z,z,z,z,z,z,z,z,z,z,z,z,z,z,z,z,z,z,z,z,z,z,z,z,z,z,z,z,z,z,z,z,z,z,z,z,z] (by kernel_rfl) rfl rfl ⟨(hc_ HB hw123_0), (hc_ HB hw123_1), (hc_ HB hw123_2), (hc_ HB hw123_3), (hc_ HB hw123_4), (hc_ HB hw123_5), (hc_ HB hw123_6), (hc_ HB hw123_7), (hc_ HB hw125_0), (hc_ HB hw125_1), (hc_ HB hw125_2), (hc_ HB hw125_3), (hc_ HB hw125_4), (hc_ HB hw125_5), (hc_ HB hw125_6), (hc_ HB hw125_7), (hc_ HB hw126_0), (hc_ HB hw126_1), (hc_ HB hw126_2), (hc_ HB hw126_3), (hc_ HB hw126_4), (hc_ HB hw126_5), (hc_ HB hw126_6), (hc_ HB hw126_7), (hc_ HB hw128_0), (hc_ HB hw128_1), (hc_ HB hw128_2), (hc_ HB hw128_3), (hc_ HB hw128_4), (hc_ HB hw128_5), (hc_ HB hw128_6), (hc_ HB hw128_7), (hc_ HB hw129_0), (hc_ HB hw129_1), (hc_ HB hw129_2), (hc_ HB hw129_3), (hc_ HB hw129_4), (hc_ HB hw129_5), (hc_ HB hw129_6), (hc_ HB hw129_7), (hc_ HB hw131_0), (hc_ HB hw131_1), (hc_ HB hw131_2), (hc_ HB hw131_3), (hc_ HB hw131_4), (hc_ HB hw131_5), (hc_ HB hw131_6), (hc_ HB hw131_7)⟩ (fun hHeld => ?_); refine with_tabW spec_IsShadowed.tab6 spec_IsShadowed.bits6 (fun HT_ HW_ => ?_)
              generalize wr.drew = w22 at HB hx123_0 hx123_1 hx123_2 hx123_3 hx123_4 hx123_5 hx123_6 hx123_7 hx125_0 hx125_1 hx125_2 hx125_3 hx125_4 hx125_5 hx125_6 hx125_7 hx126_0 hx126_1 hx126_2 hx126_3 hx126_4 hx126_5 hx126_6 hx126_7 hx128_0 hx128_1 hx128_2 hx128_3 hx128_4 hx128_5 hx128_6 hx128_7 hx129_0 hx129_1 hx129_2 hx129_3 hx129_4 hx129_5 hx129_6 hx129_7 hx131_0 hx131_1 hx131_2 hx131_3 hx131_4 hx131_5 hx131_6 hx131_7 hHeld ⊢
              refine pure_ (i := 0) (N := some 26) (v := ?_) (a' := ?_) #[o,z,z,z,z,z,z,z,z,z,z,z,z,z,z,z,z,z,z,z,z,z,z,z,z,z,z,z,z,z,z,z,z,z,z,z,z,z,z,z,z,z,z,z,z,z,z,z,z,z] rfl rfl (any_of HT_.out (by kernel_rfl)) (fun _ _ _ h => h) (Or.inl ⟨by rfl, ?_⟩) ?_ ?_
              rotate_left
              ·intro w'
               go_simp
               with_reducible rfl
              rotate_left
              ·simp only [Act.put, qa, qb, qc, i64_w, i32_w]
               rfl
              refine pure_ (i := 1) (N := some 27) (v := ?_) (a' := ?_) #[o,o,z,z,z,z,z,z,z,z,z,z,z,z,z,z,z,z,z,z,z,z,z,z,z,z,z,z,z,z,z,z,z,z,z,z,z,z,z,z,z,z,z,z,z,z,z,z,z,z] rfl rfl (any_of HT_.out (by kernel_rfl)) (fun _ _ _ h => h) (Or.inl ⟨by rfl, ?_⟩) ?_ ?_
              rotate_left
              ·intro w'
               go_simp
               with_reducible rfl
              rotate_left
              ·simp only [Act.put, qa, qb, qc, i64_w, i32_w]
               rfl
              refine pure_ (i := 2) (N := some 28) (v := ?_) (a' := ?_) #[o,o,o,z,z,z,z,z,z,z,z,z,z,z,z,z,z,z,z,z,z,z,z,z,z,z,z,z,z,z,z,z,z,z,z,z,z,z,z,z,z,z,z,z,z,z,z,z,z,z] rfl rfl (any_of HT_.out (by kernel_rfl)) (fun _ _ _ h => h) (Or.inl ⟨by rfl, ?_⟩) ?_ ?_
              rotate_left
              ·intro w'
               go_simp
               with_reducible rfl
              rotate_left
              ·simp only [Act.put, qa, qb, qc, i64_w, i32_w]
               rfl
              refine take_ (i := 3) (N := some 29) (v := ?_) (a' := ?_) #[o,o,o,o,z,z,z,z,z,z,z,z,z,z,z,z,z,z,z,z,z,z,z,z,z,z,z,z,z,z,z,z,z,z,z,z,z,z,z,z,z,z,z,z,z,z,z,z,z,z] rfl rfl (take_ofW HT_.out HW_.out (by kernel_rfl)) (fun _ _ _ h => h) (Or.inl ⟨by rfl, ?_⟩) hHeld ?_ ?_
              rotate_left
              ·rintro w' ⟨s0, s1, s2, s3, s4, s5, s6, s7, s8, s9, s10, s11, s12, s13, s14, s15, s16, s17, s18, s19, s20, s21, s22, s23, s24, s25, s26, s27, s28, s29, s30, s31, s32, s33, s34, s35, s36, s37, s38, s39, s40, s41, s42, s43, s44, s45, s46, s47⟩
               go_simp
               with_reducible rfl
              rotate_left
              ·simp only [Act.put, qa, qb, qc, i64_w, i32_w]
               rfl
              refine one_ (i := 4) (N := some 30) #[o,o,o,o,o,z,z,z,z,z,z,z,z,z,z,z,z,z,z,z,z,z,z,z,z,z,z,z,z,z,z,z,z,z,z,z,z,z,z,z,z,z,z,z,z,z,z,z,z,z] rfl rfl (one_of HT_.out (by kernel_rfl)) (by decide) (fun K hK => ?_)
              refine goes_ Try.func25 (by kernel_rfl) rfl #[.agg #[.int .i64 ((rd_T46 l0 x5_2).f0), .int .i64 ((rd_T46 l0 x5_2).f1), .int .i64 ((rd_T46 l0 x5_2).f2.f0), .int .i64 ((rd_T46 l0 x5_2).f2.f1), .int .i64 ((rd_T46 l0 x5_2).f3), .int .i64 ((rd_T46 l0 x5_2).f4), .int .i64 ((rd_T46 l0 x5_2).f5.f0), .int .i64 ((rd_T46 l0 x5_2).f5.f1)]] (by rfl) rfl rfl (by (try simp only [List.map_toArray, List.map_cons, List.map_nil]); first | done | rfl | (simp only [List.length_drop, List.length_take]; rfl)) ?_
              with_reducible refine (spec_IsRule.calls ((rd_T46 l0 x5_2).f0) ((rd_T46 l0 x5_2).f1) ((rd_T46 l0 x5_2).f2.f0) ((rd_T46 l0 x5_2).f2.f1) ((rd_T46 l0 x5_2).f3) ((rd_T46 l0 x5_2).f4) ((rd_T46 l0 x5_2).f5.f0) ((rd_T46 l0 x5_2).f5.f1) true _ A13.out).mono ?_
              rintro e w23 ⟨rfl, hb⟩
              refine ⟨_, rfl, ?_⟩
              replace HB := am (below_step (sB HB.out) hb)
              (try clear hb)
              (try clear hb2)
              (try clear hk)
              (try clear hi)
              refine hK.out _ _ ⟨(hc_ HB hw123_0), (hc_ HB hw123_1), (hc_ HB hw123_2), (hc_ HB hw123_3), (hc_ HB hw123_4), (hc_ HB hw123_5), (hc_ HB hw123_6), (hc_ HB hw123_7), (hc_ HB hw125_0), (hc_ HB hw125_1), (hc_ HB hw125_2), (hc_ HB hw125_3), (hc_ HB hw125_4), (hc_ HB hw125_5), (hc_ HB hw125_6), (hc_ HB hw125_7), (hc_ HB hw126_0), (hc_ HB hw126_1), (hc_ HB hw126_2), (hc_ HB hw126_3), (hc_ HB hw126_4), (hc_ HB hw126_5), (hc_ HB hw126_6), (hc_ HB hw126_7), (hc_ HB hw128_0), (hc_ HB hw128_1), (hc_ HB hw128_2), (hc_ HB hw128_3), (hc_ HB hw128_4), (hc_ HB hw128_5), (hc_ HB hw128_6), (hc_ HB hw128_7), (hc_ HB hw129_0), (hc_ HB hw129_1), (hc_ HB hw129_2), (hc_ HB hw129_3), (hc_ HB hw129_4), (hc_ HB hw129_5), (hc_ HB hw129_6), (hc_ HB hw129_7), (hc_ HB hw131_0), (hc_ HB hw131_1), (hc_ HB hw131_2), (hc_ HB hw131_3), (hc_ HB hw131_4), (hc_ HB hw131_5), (hc_ HB hw131_6), (hc_ HB hw131_7)⟩ (fun hHeld => ?_)
              clear hK K
              refine norm_ (a' := ?_) ?_ ?_
              rotate_left
              ·show Act.put _ (some 30) _ = _
               simp only [Act.put, qa, qb, qc, i64_w, i32_w]
               rfl
              refine pure_ (i := 5) (N := some 31) (v := ?_) (a' := ?_) #[o,o,o,o,o,o,z,z,z,z,z,z,z,z,z,z,z,z,z,z,z,z,z,z,z,z,z,z,z,z,z,z,z,z,z,z,z,z,z,z,z,z,z,z,z,z,z,z,z,z] rfl rfl (any_of HT_.out (by kernel_rfl)) (fun _ _ _ h => h) (Or.inl ⟨by rfl, ?_⟩) ?_ ?_
              rotate_left
              ·intro w'
               go_simp
               with_reducible rfl
              rotate_left
              ·simp only [Act.put, qa, qb, qc, i64_w, i32_w]
               rfl
              refine pure_ (i := 6) (N := some 32) (v := ?_) (a' := ?_) #[o,o,o,o,o,o,o,z,z,z,z,z,z,z,z,z,z,z,z,z,z,z,z,z,z,z,z,z,z,z,z,z,z,z,z,z,z,z,z,z,z,z,z,z,z,z,z,z,z,z] rfl rfl (any_of HT_.out (by kernel_rfl)) (fun _ _ _ h => h) (Or.inl ⟨by rfl, ?_⟩) ?_ ?_
              rotate_left
              ·intro w'
               go_simp
               with_reducible rfl
              rotate_left
              ·simp only [Act.put, qa, qb, qc, i64_w, i32_w]
               rfl
              refine pure_ (i := 7) (N := some 33) (v := ?_) (a' := ?_) #[o,o,o,o,o,o,o,o,z,z,z,z,z,z,z,z,z,z,z,z,z,z,z,z,z,z,z,z,z,z,z,z,z,z,z,z,z,z,z,z,z,z,z,z,z,z,z,z,z,z] rfl rfl (any_of HT_.out (by kernel_rfl)) (fun _ _ _ h => h) (Or.inl ⟨by rfl, ?_⟩) ?_ ?_
              rotate_left
              ·intro w'
               go_simp
               with_reducible rfl
              rotate_left
              ·simp only [Act.put, qa, qb, qc, i64_w, i32_w]
               rfl
              refine pure_ (i := 8) (N := some 34) (v := ?_) (a' := ?_) #[o,o,o,o,o,o,o,o,o,z,z,z,z,z,z,z,z,z,z,z,z,z,z,z,z,z,z,z,z,z,z,z,z,z,z,z,z,z,z,z,z,z,z,z,z,z,z,z,z,z] rfl rfl (any_of HT_.out (by kernel_rfl)) (fun _ _ _ h => h) (Or.inl ⟨by rfl, ?_⟩) ?_ ?_
              rotate_left
              ·intro w'
               go_simp
               with_reducible rfl
              rotate_left
              ·simp only [Act.put, qa, qb, qc, i64_w, i32_w]
               rfl
              refine pure_ (i := 10) (N := some 36) (v := ?_) (a' := ?_) #[o,o,o,o,o,o,o,o,o,z,o,z,z,z,z,z,z,z,z,z,z,z,z,z,z,z,z,z,z,z,z,z,z,z,z,z,z,z,z,z,z,z,z,z,z,z,z,z,z,z] rfl rfl (any_of HT_.out (by kernel_rfl)) (fun _ _ _ h => h) (Or.inl ⟨by rfl, ?_⟩) ?_ ?_
              rotate_left
              ·intro w'
               go_simp
               with_reducible rfl
              rotate_left
              ·simp only [Act.put, qa, qb, qc, i64_w, i32_w]
               rfl
              refine pure_ (i := 11) (N := some 37) (v := ?_) (a' := ?_) #[o,o,o,o,o,o,o,o,o,z,o,o,z,z,z,z,z,z,z,z,z,z,z,z,z,z,z,z,z,z,z,z,z,z,z,z,z,z,z,z,z,z,z,z,z,z,z,z,z,z] rfl rfl (any_of HT_.out (by kernel_rfl)) (fun _ _ _ h => h) (Or.inl ⟨by rfl, ?_⟩) ?_ ?_
              rotate_left
              ·intro w'
               go_simp
               with_reducible rfl
              rotate_left
              ·simp only [Act.put, qa, qb, qc, i64_w, i32_w]
               rfl
              refine pure_ (i := 12) (N := some 38) (v := ?_) (a' := ?_) #[o,o,o,o,o,o,o,o,o,z,o,o,o,z,z,z,z,z,z,z,z,z,z,z,z,z,z,z,z,z,z,z,z,z,z,z,z,z,z,z,z,z,z,z,z,z,z,z,z,z] rfl rfl (any_of HT_.out (by kernel_rfl)) (fun _ _ _ h => h) (Or.inl ⟨by rfl, ?_⟩) ?_ ?_
              rotate_left
              ·intro w'
               go_simp
               with_reducible rfl
              rotate_left
              ·simp only [Act.put, qa, qb, qc, i64_w, i32_w]
               rfl
              refine take_ (i := 9) (N := some 35) (v := ?_) (a' := ?_) #[o,o,o,o,o,o,o,o,o,o,o,o,o,z,z,z,z,z,z,z,z,z,z,z,z,z,z,z,z,z,z,z,z,z,z,z,z,z,z,z,z,z,z,z,z,z,z,z,z,z] rfl rfl (take_ofW HT_.out HW_.out (by kernel_rfl)) (fun _ _ _ h => h) (Or.inl ⟨by rfl, ?_⟩) hHeld ?_ ?_
              rotate_left
              ·rintro w' ⟨s0, s1, s2, s3, s4, s5, s6, s7, s8, s9, s10, s11, s12, s13, s14, s15, s16, s17, s18, s19, s20, s21, s22, s23, s24, s25, s26, s27, s28, s29, s30, s31, s32, s33, s34, s35, s36, s37, s38, s39, s40, s41, s42, s43, s44, s45, s46, s47⟩
               go_simp
               with_reducible rfl
              rotate_left
              ·simp only [Act.put, qa, qb, qc, i64_w, i32_w]
               rfl
              refine take_ (i := 13) (N := some 39) (v := ?_) (a' := ?_) #[o,o,o,o,o,o,o,o,o,o,o,o,o,o,z,z,z,z,z,z,z,z,z,z,z,z,z,z,z,z,z,z,z,z,z,z,z,z,z,z,z,z,z,z,z,z,z,z,z,z] rfl rfl (take_ofW HT_.out HW_.out (by kernel_rfl)) (fun _ _ _ h => h) (Or.inl ⟨by rfl, ?_⟩) hHeld ?_ ?_
              rotate_left
              ·rintro w' ⟨s0, s1, s2, s3, s4, s5, s6, s7, s8, s9, s10, s11, s12, s13, s14, s15, s16, s17, s18, s19, s20, s21, s22, s23, s24, s25, s26, s27, s28, s29, s30, s31, s32, s33, s34, s35, s36, s37, s38, s39, s40, s41, s42, s43, s44, s45, s46, s47⟩
               go_simp
               with_reducible rfl
              rotate_left
              ·simp only [Act.put, qa, qb, qc, i64_w, i32_w]
               rfl
              refine one_ (i := 14) (N := some 40) #[o,o,o,o,o,o,o,o,o,o,o,o,o,o,o,z,z,z,z,z,z,z,z,z,z,z,z,z,z,z,z,z,z,z,z,z,z,z,z,z,z,z,z,z,z,z,z,z,z,z] rfl rfl (one_of HT_.out (by kernel_rfl)) (by decide) (fun K hK => ?_)
              refine goes_ Try.func26 (by kernel_rfl) rfl #[.agg #[.int .i64 ((rd_T46 l0 x5_2).f0), .int .i64 ((rd_T46 l0 x5_2).f1), .int .i64 ((rd_T46 l0 x5_2).f2.f0), .int .i64 ((rd_T46 l0 x5_2).f2.f1), .int .i64 ((rd_T46 l0 x5_2).f3), .int .i64 ((rd_T46 l0 x5_2).f4), .int .i64 ((rd_T46 l0 x5_2).f5.f0), .int .i64 ((rd_T46 l0 x5_2).f5.f1)], .agg #[.int .i64 ((rd_T46 l0 a1).f0), .int .i64 ((rd_T46 l0 a1).f1), .int .i64 ((rd_T46 l0 a1).f2.f0), .int .i64 ((rd_T46 l0 a1).f2.f1), .int .i64 ((rd_T46 l0 a1).f3), .int .i64 ((rd_T46 l0 a1).f4), .int .i64 ((rd_T46 l0 a1).f5.f0), .int .i64 ((rd_T46 l0 a1).f5.f1)]] (by rfl) rfl rfl (by (try simp only [List.map_toArray, List.map_cons, List.map_nil]); first | done | rfl | (simp only [List.length_drop, List.length_take]; rfl)) ?_
              with_reducible refine (spec_IsBefore.calls ((rd_T46 l0 x5_2).f0) ((rd_T46 l0 x5_2).f1) ((rd_T46 l0 x5_2).f2.f0) ((rd_T46 l0 x5_2).f2.f1) ((rd_T46 l0 x5_2).f3) ((rd_T46 l0 x5_2).f4) ((rd_T46 l0 x5_2).f5.f0) ((rd_T46 l0 x5_2).f5.f1) ((rd_T46 l0 a1).f0) ((rd_T46 l0 a1).f1) ((rd_T46 l0 a1).f2.f0) ((rd_T46 l0 a1).f2.f1) ((rd_T46 l0 a1).f3) ((rd_T46 l0 a1).f4) ((rd_T46 l0 a1).f5.f0) ((rd_T46 l0 a1).f5.f1) true _ A17.out).mono ?_
              rintro e w24 ⟨rfl, hb⟩
              refine ⟨_, rfl, ?_⟩
              replace HB := am (below_step (sB HB.out) hb)
              (try clear hb)
              (try clear hb2)
              (try clear hk)
              (try clear hi)
              refine hK.out _ _ ⟨(hc_ HB hw123_0), (hc_ HB hw123_1), (hc_ HB hw123_2), (hc_ HB hw123_3), (hc_ HB hw123_4), (hc_ HB hw123_5), (hc_ HB hw123_6), (hc_ HB hw123_7), (hc_ HB hw125_0), (hc_ HB hw125_1), (hc_ HB hw125_2), (hc_ HB hw125_3), (hc_ HB hw125_4), (hc_ HB hw125_5), (hc_ HB hw125_6), (hc_ HB hw125_7), (hc_ HB hw126_0), (hc_ HB hw126_1), (hc_ HB hw126_2), (hc_ HB hw126_3), (hc_ HB hw126_4), (hc_ HB hw126_5), (hc_ HB hw126_6), (hc_ HB hw126_7), (hc_ HB hw128_0), (hc_ HB hw128_1), (hc_ HB hw128_2), (hc_ HB hw128_3), (hc_ HB hw128_4), (hc_ HB hw128_5), (hc_ HB hw128_6), (hc_ HB hw128_7), (hc_ HB hw129_0), (hc_ HB hw129_1), (hc_ HB hw129_2), (hc_ HB hw129_3), (hc_ HB hw129_4), (hc_ HB hw129_5), (hc_ HB hw129_6), (hc_ HB hw129_7), (hc_ HB hw131_0), (hc_ HB hw131_1), (hc_ HB hw131_2), (hc_ HB hw131_3), (hc_ HB hw131_4), (hc_ HB hw131_5), (hc_ HB hw131_6), (hc_ HB hw131_7)⟩ (fun hHeld => ?_)
              clear hK K
              refine norm_ (a' := ?_) ?_ ?_
              rotate_left
              ·show Act.put _ (some 40) _ = _
               simp only [Act.put, qa, qb, qc, i64_w, i32_w]
               rfl
              refine pure_ (i := 15) (N := some 41) (v := ?_) (a' := ?_) #[o,o,o,o,o,o,o,o,o,o,o,o,o,o,o,o,z,z,z,z,z,z,z,z,z,z,z,z,z,z,z,z,z,z,z,z,z,z,z,z,z,z,z,z,z,z,z,z,z,z] rfl rfl (any_of HT_.out (by kernel_rfl)) (fun _ _ _ h => h) (Or.inl ⟨by rfl, ?_⟩) ?_ ?_
              rotate_left
              ·intro w'
               go_simp
               with_reducible rfl
              rotate_left
              ·simp only [Act.put, qa, qb, qc, i64_w, i32_w]
               rfl
              refine pure_ (i := 16) (N := some 42) (v := ?_) (a' := ?_) #[o,o,o,o,o,o,o,o,o,o,o,o,o,o,o,o,o,z,z,z,z,z,z,z,z,z,z,z,z,z,z,z,z,z,z,z,z,z,z,z,z,z,z,z,z,z,z,z,z,z] rfl rfl (any_of HT_.out (by kernel_rfl)) (fun _ _ _ h => h) (Or.inl ⟨by rfl, ?_⟩) ?_ ?_
              rotate_left
              ·intro w'
               go_simp
               with_reducible rfl
              rotate_left
              ·simp only [Act.put, qa, qb, qc, i64_w, i32_w]
               rfl
              refine pure_ (i := 17) (N := some 43) (v := ?_) (a' := ?_) #[o,o,o,o,o,o,o,o,o,o,o,o,o,o,o,o,o,o,z,z,z,z,z,z,z,z,z,z,z,z,z,z,z,z,z,z,z,z,z,z,z,z,z,z,z,z,z,z,z,z] rfl rfl (any_of HT_.out (by kernel_rfl)) (fun _ _ _ h => h) (Or.inl ⟨by rfl, ?_⟩) ?_ ?_
              rotate_left
              ·intro w'
               go_simp
               with_reducible rfl
              rotate_left
              ·simp only [Act.put, qa, qb, qc, i64_w, i32_w]
               rfl
              refine pure_ (i := 18) (N := some 44) (v := ?_) (a' := ?_) #[o,o,o,o,o,o,o,o,o,o,o,o,o,o,o,o,o,o,o,z,z,z,z,z,z,z,z,z,z,z,z,z,z,z,z,z,z,z,z,z,z,z,z,z,z,z,z,z,z,z] rfl rfl (any_of HT_.out (by kernel_rfl)) (fun _ _ _ h => h) (Or.inl ⟨by rfl, ?_⟩) ?_ ?_
              rotate_left
              ·intro w'
               go_simp
               with_reducible rfl
              rotate_left
              ·simp only [Act.put, qa, qb, qc, i64_w, i32_w]
               rfl
              refine pure_ (i := 19) (N := some 45) (v := ?_) (a' := ?_) #[o,o,o,o,o,o,o,o,o,o,o,o,o,o,o,o,o,o,o,o,z,z,z,z,z,z,z,z,z,z,z,z,z,z,z,z,z,z,z,z,z,z,z,z,z,z,z,z,z,z] rfl rfl (any_of HT_.out (by kernel_rfl)) (fun _ _ _ h => h) (Or.inl ⟨by rfl, ?_⟩) ?_ ?_
              rotate_left
              ·intro w'
               go_simp
               with_reducible rfl
              rotate_left
              ·simp only [Act.put, qa, qb, qc, i64_w, i32_w]
               rfl
              refine pure_ (i := 20) (N := some 46) (v := ?_) (a' := ?_) #[o,o,o,o,o,o,o,o,o,o,o,o,o,o,o,o,o,o,o,o,o,z,z,z,z,z,z,z,z,z,z,z,z,z,z,z,z,z,z,z,z,z,z,z,z,z,z,z,z,z] rfl rfl (any_of HT_.out (by kernel_rfl)) (fun _ _ _ h => h) (Or.inl ⟨by rfl, ?_⟩) ?_ ?_
              rotate_left
              ·intro w'
               go_simp
               with_reducible rfl
              rotate_left
              ·simp only [Act.put, qa, qb, qc, i64_w, i32_w]
               rfl
              refine pure_ (i := 22) (N := some 48) (v := ?_) (a' := ?_) #[o,o,o,o,o,o,o,o,o,o,o,o,o,o,o,o,o,o,o,o,o,z,o,z,z,z,z,z,z,z,z,z,z,z,z,z,z,z,z,z,z,z,z,z,z,z,z,z,z,z] rfl rfl (any_of HT_.out (by kernel_rfl)) (fun _ _ _ h => h) (Or.inl ⟨by rfl, ?_⟩) ?_ ?_
              rotate_left
              ·intro w'
               go_simp
               with_reducible rfl
              rotate_left
              ·simp only [Act.put, qa, qb, qc, i64_w, i32_w]
               rfl
              refine pure_ (i := 23) (N := some 49) (v := ?_) (a' := ?_) #[o,o,o,o,o,o,o,o,o,o,o,o,o,o,o,o,o,o,o,o,o,z,o,o,z,z,z,z,z,z,z,z,z,z,z,z,z,z,z,z,z,z,z,z,z,z,z,z,z,z] rfl rfl (any_of HT_.out (by kernel_rfl)) (fun _ _ _ h => h) (Or.inl ⟨by rfl, ?_⟩) ?_ ?_
              rotate_left
              ·intro w'
               go_simp
               with_reducible rfl
              rotate_left
              ·simp only [Act.put, qa, qb, qc, i64_w, i32_w]
               rfl
              refine pure_ (i := 24) (N := some 50) (v := ?_) (a' := ?_) #[o,o,o,o,o,o,o,o,o,o,o,o,o,o,o,o,o,o,o,o,o,z,o,o,o,z,z,z,z,z,z,z,z,z,z,z,z,z,z,z,z,z,z,z,z,z,z,z,z,z] rfl rfl (any_of HT_.out (by kernel_rfl)) (fun _ _ _ h => h) (Or.inl ⟨by rfl, ?_⟩) ?_ ?_
              rotate_left
              ·intro w'
               go_simp
               with_reducible rfl
              rotate_left
              ·simp only [Act.put, qa, qb, qc, i64_w, i32_w]
               rfl
              refine pure_ (i := 25) (N := some 51) (v := ?_) (a' := ?_) #[o,o,o,o,o,o,o,o,o,o,o,o,o,o,o,o,o,o,o,o,o,z,o,o,o,o,z,z,z,z,z,z,z,z,z,z,z,z,z,z,z,z,z,z,z,z,z,z,z,z] rfl rfl (any_of HT_.out (by kernel_rfl)) (fun _ _ _ h => h) (Or.inl ⟨by rfl, ?_⟩) ?_ ?_
              rotate_left
              ·intro w'
               go_simp
               with_reducible rfl
              rotate_left
              ·simp only [Act.put, qa, qb, qc, i64_w, i32_w]
               rfl
              refine take_ (i := 21) (N := some 47) (v := ?_) (a' := ?_) #[o,o,o,o,o,o,o,o,o,o,o,o,o,o,o,o,o,o,o,o,o,o,o,o,o,o,z,z,z,z,z,z,z,z,z,z,z,z,z,z,z,z,z,z,z,z,z,z,z,z] rfl rfl (take_ofW HT_.out HW_.out (by kernel_rfl)) (fun _ _ _ h => h) (Or.inl ⟨by rfl, ?_⟩) hHeld ?_ ?_
              rotate_left
              ·rintro w' ⟨s0, s1, s2, s3, s4, s5, s6, s7, s8, s9, s10, s11, s12, s13, s14, s15, s16, s17, s18, s19, s20, s21, s22, s23, s24, s25, s26, s27, s28, s29, s30, s31, s32, s33, s34, s35, s36, s37, s38, s39, s40, s41, s42, s43, s44, s45, s46, s47⟩
               go_simp
               with_reducible rfl
              rotate_left
              ·simp only [Act.put, qa, qb, qc, i64_w, i32_w]
               rfl
              refine take_ (i := 26) (N := some 52) (v := ?_) (a' := ?_) #[o,o,o,o,o,o,o,o,o,o,o,o,o,o,o,o,o,o,o,o,o,o,o,o,o,o,o,z,z,z,z,z,z,z,z,z,z,z,z,z,z,z,z,z,z,z,z,z,z,z] rfl rfl (take_ofW HT_.out HW_.out (by kernel_rfl)) (fun _ _ _ h => h) (Or.inl ⟨by rfl, ?_⟩) hHeld ?_ ?_
              rotate_left
              ·rintro w' ⟨s0, s1, s2, s3, s4, s5, s6, s7, s8, s9, s10, s11, s12, s13, s14, s15, s16, s17, s18, s19, s20, s21, s22, s23, s24, s25, s26, s27, s28, s29, s30, s31, s32, s33, s34, s35, s36, s37, s38, s39, s40, s41, s42, s43, s44, s45, s46, s47⟩
               go_simp
               with_reducible rfl
              rotate_left
              ·simp only [Act.put, qa, qb, qc, i64_w, i32_w]
               rfl
              refine one_ (i := 27) (N := some 53) #[o,o,o,o,o,o,o,o,o,o,o,o,o,o,o,o,o,o,o,o,o,o,o,o,o,o,o,o,z,z,z,z,z,z,z,z,z,z,z,z,z,z,z,z,z,z,z,z,z,z] rfl rfl (one_of HT_.out (by kernel_rfl)) (by decide) (fun K hK => ?_)
              refine goes_ Try.func27 (by kernel_rfl) rfl #[.agg #[.int .i64 ((rd_T46 l0 a1).f2.f0), .int .i64 ((rd_T46 l0 a1).f2.f1)], .agg #[.int .i64 ((rd_T46 l0 x5_2).f2.f0), .int .i64 ((rd_T46 l0 x5_2).f2.f1)]] (by rfl) rfl rfl (by (try simp only [List.map_toArray, List.map_cons, List.map_nil]); first | done | rfl | (simp only [List.length_drop, List.length_take]; rfl)) ?_
              with_reducible refine (spec_IsNarrower.calls ((rd_T46 l0 a1).f2.f0) ((rd_T46 l0 a1).f2.f1) ((rd_T46 l0 x5_2).f2.f0) ((rd_T46 l0 x5_2).f2.f1) true _ A19.out).mono ?_
              rintro e w25 ⟨rfl, hb⟩
              refine ⟨_, rfl, ?_⟩
              replace HB := am (below_step (sB HB.out) hb)
              (try clear hb)
              (try clear hb2)
              (try clear hk)
              (try clear hi)
              refine hK.out _ _ ⟨(hc_ HB hw123_0), (hc_ HB hw123_1), (hc_ HB hw123_2), (hc_ HB hw123_3), (hc_ HB hw123_4), (hc_ HB hw123_5), (hc_ HB hw123_6), (hc_ HB hw123_7), (hc_ HB hw125_0), (hc_ HB hw125_1), (hc_ HB hw125_2), (hc_ HB hw125_3), (hc_ HB hw125_4), (hc_ HB hw125_5), (hc_ HB hw125_6), (hc_ HB hw125_7), (hc_ HB hw126_0), (hc_ HB hw126_1), (hc_ HB hw126_2), (hc_ HB hw126_3), (hc_ HB hw126_4), (hc_ HB hw126_5), (hc_ HB hw126_6), (hc_ HB hw126_7), (hc_ HB hw128_0), (hc_ HB hw128_1), (hc_ HB hw128_2), (hc_ HB hw128_3), (hc_ HB hw128_4), (hc_ HB hw128_5), (hc_ HB hw128_6), (hc_ HB hw128_7), (hc_ HB hw129_0), (hc_ HB hw129_1), (hc_ HB hw129_2), (hc_ HB hw129_3), (hc_ HB hw129_4), (hc_ HB hw129_5), (hc_ HB hw129_6), (hc_ HB hw129_7), (hc_ HB hw131_0), (hc_ HB hw131_1), (hc_ HB hw131_2), (hc_ HB hw131_3), (hc_ HB hw131_4), (hc_ HB hw131_5), (hc_ HB hw131_6), (hc_ HB hw131_7)⟩ (fun hHeld => ?_)
              clear hK K
              refine norm_ (a' := ?_) ?_ ?_
              rotate_left
              ·show Act.put _ (some 53) _ = _
               simp only [Act.put, qa, qb, qc, i64_w, i32_w]
               rfl
              refine pure_ (i := 28) (N := some 54) (v := ?_) (a' := ?_) #[o,o,o,o,o,o,o,o,o,o,o,o,o,o,o,o,o,o,o,o,o,o,o,o,o,o,o,o,o,z,z,z,z,z,z,z,z,z,z,z,z,z,z,z,z,z,z,z,z,z] rfl rfl (any_of HT_.out (by kernel_rfl)) (fun _ _ _ h => h) (Or.inl ⟨by rfl, ?_⟩) ?_ ?_
              rotate_left
              ·intro w'
               go_simp
               with_reducible rfl
              rotate_left
              ·simp only [Act.put, qa, qb, qc, i64_w, i32_w]
               rfl
              refine pure_ (i := 29) (N := some 55) (v := ?_) (a' := ?_) #[o,o,o,o,o,o,o,o,o,o,o,o,o,o,o,o,o,o,o,o,o,o,o,o,o,o,o,o,o,o,z,z,z,z,z,z,z,z,z,z,z,z,z,z,z,z,z,z,z,z] rfl rfl (any_of HT_.out (by kernel_rfl)) (fun _ _ _ h => h) (Or.inl ⟨by rfl, ?_⟩) ?_ ?_
              rotate_left
              ·intro w'
               go_simp
               with_reducible rfl
              rotate_left
              ·simp only [Act.put, qa, qb, qc, i64_w, i32_w]
               rfl
              refine pure_ (i := 30) (N := some 56) (v := ?_) (a' := ?_) #[o,o,o,o,o,o,o,o,o,o,o,o,o,o,o,o,o,o,o,o,o,o,o,o,o,o,o,o,o,o,o,z,z,z,z,z,z,z,z,z,z,z,z,z,z,z,z,z,z,z] rfl rfl (any_of HT_.out (by kernel_rfl)) (fun _ _ _ h => h) (Or.inl ⟨by rfl, ?_⟩) ?_ ?_
              rotate_left
              ·intro w'
               go_simp
               with_reducible rfl
              rotate_left
              ·simp only [Act.put, qa, qb, qc, i64_w, i32_w]
               rfl
              refine pure_ (i := 31) (N := some 57) (v := ?_) (a' := ?_) #[o,o,o,o,o,o,o,o,o,o,o,o,o,o,o,o,o,o,o,o,o,o,o,o,o,o,o,o,o,o,o,o,z,z,z,z,z,z,z,z,z,z,z,z,z,z,z,z,z,z] rfl rfl (any_of HT_.out (by kernel_rfl)) (fun _ _ _ h => h) (Or.inl ⟨by rfl, ?_⟩) ?_ ?_
              rotate_left
              ·intro w'
               go_simp
               with_reducible rfl
              rotate_left
              ·simp only [Act.put, qa, qb, qc, i64_w, i32_w]
               rfl
              refine pure_ (i := 32) (N := some 58) (v := ?_) (a' := ?_) #[o,o,o,o,o,o,o,o,o,o,o,o,o,o,o,o,o,o,o,o,o,o,o,o,o,o,o,o,o,o,o,o,o,z,z,z,z,z,z,z,z,z,z,z,z,z,z,z,z,z] rfl rfl (any_of HT_.out (by kernel_rfl)) (fun _ _ _ h => h) (Or.inl ⟨by rfl, ?_⟩) ?_ ?_
              rotate_left
              ·intro w'
               go_simp
               with_reducible rfl
              rotate_left
              ·simp only [Act.put, qa, qb, qc, i64_w, i32_w]
               rfl
              refine pure_ (i := 33) (N := some 59) (v := ?_) (a' := ?_) #[o,o,o,o,o,o,o,o,o,o,o,o,o,o,o,o,o,o,o,o,o,o,o,o,o,o,o,o,o,o,o,o,o,o,z,z,z,z,z,z,z,z,z,z,z,z,z,z,z,z] rfl rfl (any_of HT_.out (by kernel_rfl)) (fun _ _ _ h => h) (Or.inl ⟨by rfl, ?_⟩) ?_ ?_
              rotate_left
              ·intro w'
               go_simp
               with_reducible rfl
              rotate_left
              ·simp only [Act.put, qa, qb, qc, i64_w, i32_w]
               rfl
              refine take_ (i := 34) (N := some 60) (v := ?_) (a' := ?_) #[o,o,o,o,o,o,o,o,o,o,o,o,o,o,o,o,o,o,o,o,o,o,o,o,o,o,o,o,o,o,o,o,o,o,o,z,z,z,z,z,z,z,z,z,z,z,z,z,z,z] rfl rfl (take_ofW HT_.out HW_.out (by kernel_rfl)) (fun _ _ _ h => h) (Or.inl ⟨by rfl, ?_⟩) hHeld ?_ ?_
              rotate_left
              ·rintro w' ⟨s0, s1, s2, s3, s4, s5, s6, s7, s8, s9, s10, s11, s12, s13, s14, s15, s16, s17, s18, s19, s20, s21, s22, s23, s24, s25, s26, s27, s28, s29, s30, s31, s32, s33, s34, s35, s36, s37, s38, s39, s40, s41, s42, s43, s44, s45, s46, s47⟩
               go_simp
               with_reducible rfl
              rotate_left
              ·simp only [Act.put, qa, qb, qc, i64_w, i32_w]
               rfl
              refine pure_ (i := 35) (N := some 61) (v := ?_) (a' := ?_) #[o,o,o,o,o,o,o,o,o,o,o,o,o,o,o,o,o,o,o,o,o,o,o,o,o,o,o,o,o,o,o,o,o,o,o,o,z,z,z,z,z,z,z,z,z,z,z,z,z,z] rfl rfl (any_of HT_.out (by kernel_rfl)) (fun _ _ _ h => h) (Or.inl ⟨by rfl, ?_⟩) ?_ ?_
              rotate_left
              ·intro w'
               go_simp
               with_reducible rfl
              rotate_left
              ·simp only [Act.put, qa, qb, qc, i64_w, i32_w]
               rfl
              refine pure_ (i := 36) (N := some 62) (v := ?_) (a' := ?_) #[o,o,o,o,o,o,o,o,o,o,o,o,o,o,o,o,o,o,o,o,o,o,o,o,o,o,o,o,o,o,o,o,o,o,o,o,o,z,z,z,z,z,z,z,z,z,z,z,z,z] rfl rfl (any_of HT_.out (by kernel_rfl)) (fun _ _ _ h => h) (Or.inl ⟨by rfl, ?_⟩) ?_ ?_
              rotate_left
              ·intro w'
               go_simp
               with_reducible rfl
              rotate_left
              ·simp only [Act.put, qa, qb, qc, i64_w, i32_w]
               rfl
              refine pure_ (i := 37) (N := some 63) (v := undef) (a' := ?_) #[o,o,o,o,o,o,o,o,o,o,o,o,o,o,o,o,o,o,o,o,o,o,o,o,o,o,o,o,o,o,o,o,o,o,o,o,o,o,z,z,z,z,z,z,z,z,z,z,z,z] rfl rfl (any_of HT_.out (by kernel_rfl)) (fun _ _ _ h => h) (Or.inr ⟨by rfl, rfl⟩) ?_ ?_
              rotate_left
              ·simp only [Act.put, qa, qb, qc, i64_w, i32_w]
               rfl
              refine pure_ (i := 38) (N := some 64) (v := undef) (a' := ?_) #[o,o,o,o,o,o,o,o,o,o,o,o,o,o,o,o,o,o,o,o,o,o,o,o,o,o,o,o,o,o,o,o,o,o,o,o,o,o,o,z,z,z,z,z,z,z,z,z,z,z] rfl rfl (any_of HT_.out (by kernel_rfl)) (fun _ _ _ h => h) (Or.inr ⟨by rfl, rfl⟩) ?_ ?_
              rotate_left
              ·simp only [Act.put, qa, qb, qc, i64_w, i32_w]
               rfl
              refine pure_ (i := 39) (N := some 65) (v := undef) (a' := ?_) #[o,o,o,o,o,o,o,o,o,o,o,o,o,o,o,o,o,o,o,o,o,o,o,o,o,o,o,o,o,o,o,o,o,o,o,o,o,o,o,o,z,z,z,z,z,z,z,z,z,z] rfl rfl (any_of HT_.out (by kernel_rfl)) (fun _ _ _ h => h) (Or.inr ⟨by rfl, rfl⟩) ?_ ?_
              rotate_left
              ·simp only [Act.put, qa, qb, qc, i64_w, i32_w]
               rfl
              refine pure_ (i := 40) (N := some 66) (v := undef) (a' := ?_) #[o,o,o,o,o,o,o,o,o,o,o,o,o,o,o,o,o,o,o,o,o,o,o,o,o,o,o,o,o,o,o,o,o,o,o,o,o,o,o,o,o,z,z,z,z,z,z,z,z,z] rfl rfl (any_of HT_.out (by kernel_rfl)) (fun _ _ _ h => h) (Or.inr ⟨by rfl, rfl⟩) ?_ ?_
              rotate_left
              ·simp only [Act.put, qa, qb, qc, i64_w, i32_w]
               rfl
              refine pure_ (i := 41) (N := some 67) (v := undef) (a' := ?_) #[o,o,o,o,o,o,o,o,o,o,o,o,o,o,o,o,o,o,o,o,o,o,o,o,o,o,o,o,o,o,o,o,o,o,o,o,o,o,o,o,o,o,z,z,z,z,z,z,z,z] rfl rfl (any_of HT_.out (by kernel_rfl)) (fun _ _ _ h => h) (Or.inr ⟨by rfl, rfl⟩) ?_ ?_
              rotate_left
              ·simp only [Act.put, qa, qb, qc, i64_w, i32_w]
               rfl
              refine pure_ (i := 42) (N := some 68) (v := undef) (a' := ?_) #[o,o,o,o,o,o,o,o,o,o,o,o,o,o,o,o,o,o,o,o,o,o,o,o,o,o,o,o,o,o,o,o,o,o,o,o,o,o,o,o,o,o,o,z,z,z,z,z,z,z] rfl rfl (any_of HT_.out (by kernel_rfl)) (fun _ _ _ h => h) (Or.inr ⟨by rfl, rfl⟩) ?_ ?_
              rotate_left
              ·simp only [Act.put, qa, qb, qc, i64_w, i32_w]
               rfl
              refine pure_ (i := 43) (N := some 69) (v := undef) (a' := ?_) #[o,o,o,o,o,o,o,o,o,o,o,o,o,o,o,o,o,o,o,o,o,o,o,o,o,o,o,o,o,o,o,o,o,o,o,o,o,o,o,o,o,o,o,o,z,z,z,z,z,z] rfl rfl (any_of HT_.out (by kernel_rfl)) (fun _ _ _ h => h) (Or.inr ⟨by rfl, rfl⟩) ?_ ?_
              rotate_left
              ·simp only [Act.put, qa, qb, qc, i64_w, i32_w]
               rfl
              refine pure_ (i := 44) (N := some 70) (v := undef) (a' := ?_) #[o,o,o,o,o,o,o,o,o,o,o,o,o,o,o,o,o,o,o,o,o,o,o,o,o,o,o,o,o,o,o,o,o,o,o,o,o,o,o,o,o,o,o,o,o,z,z,z,z,z] rfl rfl (any_of HT_.out (by kernel_rfl)) (fun _ _ _ h => h) (Or.inr ⟨by rfl, rfl⟩) ?_ ?_
              rotate_left
              ·simp only [Act.put, qa, qb, qc, i64_w, i32_w]
               rfl
              refine pure_ (i := 45) (N := some 71) (v := undef) (a' := ?_) #[o,o,o,o,o,o,o,o,o,o,o,o,o,o,o,o,o,o,o,o,o,o,o,o,o,o,o,o,o,o,o,o,o,o,o,o,o,o,o,o,o,o,o,o,o,o,z,z,z,z] rfl rfl (any_of HT_.out (by kernel_rfl)) (fun _ _ _ h => h) (Or.inr ⟨by rfl, rfl⟩) ?_ ?_
              rotate_left
              ·simp only [Act.put, qa, qb, qc, i64_w, i32_w]
               rfl
              refine pure_ (i := 46) (N := some 72) (v := undef) (a' := ?_) #[o,o,o,o,o,o,o,o,o,o,o,o,o,o,o,o,o,o,o,o,o,o,o,o,o,o,o,o,o,o,o,o,o,o,o,o,o,o,o,o,o,o,o,o,o,o,o,z,z,z] rfl rfl (any_of HT_.out (by kernel_rfl)) (fun _ _ _ h => h) (Or.inr ⟨by rfl, rfl⟩) ?_ ?_
              rotate_left
              ·simp only [Act.put, qa, qb, qc, i64_w, i32_w]
               rfl
              refine pure_ (i := 47) (N := some 73) (v := undef) (a' := ?_) #[o,o,o,o,o,o,o,o,o,o,o,o,o,o,o,o,o,o,o,o,o,o,o,o,o,o,o,o,o,o,o,o,o,o,o,o,o,o,o,o,o,o,o,o,o,o,o,o,z,z] rfl rfl (any_of HT_.out (by kernel_rfl)) (fun _ _ _ h => h) (Or.inr ⟨by rfl, rfl⟩) ?_ ?_
              rotate_left
              ·simp only [Act.put, qa, qb, qc, i64_w, i32_w]
               rfl
              refine pure_ (i := 48) (N := some 74) (v := ?_) (a' := ?_) #[o,o,o,o,o,o,o,o,o,o,o,o,o,o,o,o,o,o,o,o,o,o,o,o,o,o,o,o,o,o,o,o,o,o,o,o,o,o,o,o,o,o,o,o,o,o,o,o,o,z] rfl rfl (any_of HT_.out (by kernel_rfl)) (fun _ _ _ h => h) (Or.inl ⟨by rfl, ?_⟩) ?_ ?_
              rotate_left
              ·intro w'
               go_simp
               with_reducible rfl
              rotate_left
              ·simp only [Act.put, qa, qb, qc, i64_w, i32_w]
               rfl
              refine pure_ (i := 49) (N := some 75) (v := ?_) (a' := ?_) #[o,o,o,o,o,o,o,o,o,o,o,o,o,o,o,o,o,o,o,o,o,o,o,o,o,o,o,o,o,o,o,o,o,o,o,o,o,o,o,o,o,o,o,o,o,o,o,o,o,o] rfl rfl (any_of HT_.out (by kernel_rfl)) (fun _ _ _ h => h) (Or.inl ⟨by rfl, ?_⟩) ?_ ?_
              rotate_left
              ·intro w'
               go_simp
               with_reducible rfl
              rotate_left
              ·simp only [Act.put, qa, qb, qc, i64_w, i32_w]
               rfl
              refine done_ (done_of HT_.out (by kernel_rfl)) ?_
              try go_wp2
              go_ret
              exact ⟨by first | rfl | (simp [errW_none, errW_some] <;> rfl) | (simp [*, errW_none, errW_some] <;> rfl), sB HB.out⟩
             ·rw [if_neg c21] at H
              have c21b0 : (((rd_T46 l0 x5_2).f3) == 0) = false := beq_eq_false_iff_ne.mpr c21
              have c21b1 : (((rd_T46 l0 x5_2).f3) != 0) = true := bne_iff_ne.mpr c21
              by_cases c26 : ((rd_T46 l0 x5_2).f3) = ((rd_T46 l0 a1).f3)
              ·rw [if_pos c26] at H
               have c26b0 : (((rd_T46 l0 x5_2).f3) == ((rd_T46 l0 a1).f3)) = true := beq_iff_eq.mpr c26
               have c26b1 : (((rd_T46 l0 x5_2).f3) != ((rd_T46 l0 a1).f3)) = false := bne_eq_false_iff_eq.mpr c26
               clear c26
               obtain rfl := Option.some.inj H
               try go_wp2
               replace HB := am (below_drew1 HB.out)
               have p123 : 0 ≤ (x5_2 : Int) := of_decide_eq_true (by first | (with_reducible assumption) | assumption)
               have q123 : x5_2 < (l0.length : Int) := of_decide_eq_true (by first | (with_reducible assumption) | assumption)
               obtain ⟨ad123, e123, hx123_0, hx123_1, hx123_2, hx123_3, hx123_4, hx123_5, hx123_6, hx123_7⟩ := at_T46 HR0.out x5_2 p123 q123
               have hw123_7 := hx123_7
               have hw123_6 := hx123_6
               have hw123_5 := hx123_5
               have hw123_4 := hx123_4
               have hw123_3 := hx123_3
               have hw123_2 := hx123_2
               have hw123_1 := hx123_1
               have hw123_0 := hx123_0
               cases e123
               replace hx123_0 := hc_ HB hx123_0
               replace hx123_1 := hc_ HB hx123_1
               replace hx123_2 := hc_ HB hx123_2
               replace hx123_3 := hc_ HB hx123_3
               replace hx123_4 := hc_ HB hx123_4
               replace hx123_5 := hc_ HB hx123_5
               replace hx123_6 := hc_ HB hx123_6
               replace hx123_7 := hc_ HB hx123_7
               replace p123 := eq_true p123
               replace q123 := eq_true q123
               have p125 : 0 ≤ (x5_2 : Int) := of_decide_eq_true (by first | (with_reducible assumption) | assumption)
               have q125 : x5_2 < (l0.length : Int) := of_decide_eq_true (by first | (with_reducible assumption) | assumption)
               obtain ⟨ad125, e125, hx125_0, hx125_1, hx125_2, hx125_3, hx125_4, hx125_5, hx125_6, hx125_7⟩ := at_T46 HR0.out x5_2 p125 q125
               have hw125_7 := hx125_7
               have hw125_6 := hx125_6
               have hw125_5 := hx125_5
               have hw125_4 := hx125_4
               have hw125_3 := hx125_3
               have hw125_2 := hx125_2
               have hw125_1 := hx125_1
               have hw125_0 := hx125_0
               obtain rfl : ad123 = ad125 := (by injection e125)
               replace hx125_0 := hc_ HB hx125_0
               replace hx125_1 := hc_ HB hx125_1
               replace hx125_2 := hc_ HB hx125_2
               replace hx125_3 := hc_ HB hx125_3
               replace hx125_4 := hc_ HB hx125_4
               replace hx125_5 := hc_ HB hx125_5
               replace hx125_6 := hc_ HB hx125_6
               replace hx125_7 := hc_ HB hx125_7
               replace p125 := eq_true p125
               replace q125 := eq_true q125
               have p126 : 0 ≤ (a1 : Int) := of_decide_eq_true (by first | (with_reducible assumption) | assumption)
               have q126 : a1 < (l0.length : Int) := of_decide_eq_true (by first | (with_reducible assumption) | assumption)
               obtain ⟨ad126, e126, hx126_0, hx126_1, hx126_2, hx126_3, hx126_4, hx126_5, hx126_6, hx126_7⟩ := at_T46 HR0.out a1 p126 q126
               have hw126_7 := hx126_7
               have hw126_6 := hx126_6
               have hw126_5 := hx126_5
               have hw126_4 := hx126_4
               have hw126_3 := hx126_3
               have hw126_2 := hx126_2
               have hw126_1 := hx126_1
               have hw126_0 := hx126_0
               obtain rfl : ad123 = ad126 := (by injection e126)
               replace hx126_0 := hc_ HB hx126_0
               replace hx126_1 := hc_ HB hx126_1
               replace hx126_2 := hc_ HB hx126_2
               replace hx126_3 := hc_ HB hx126_3
               replace hx126_4 := hc_ HB hx126_4
               replace hx126_5 := hc_ HB hx126_5
               replace hx126_6 := hc_ HB hx126_6
               replace hx126_7 := hc_ HB hx126_7
               replace p126 := eq_true p126
               replace q126 := eq_true q126
               have p128 : 0 ≤ (a1 : Int) := of_decide_eq_true (by first | (with_reducible assumption) | assumption)
               have q128 : a1 < (l0.length : Int) := of_decide_eq_true (by first | (with_reducible assumption) | assumption)
               obtain ⟨ad128, e128, hx128_0, hx128_1, hx128_2, hx128_3, hx128_4, hx128_5, hx128_6, hx128_7⟩ := at_T46 HR0.out a1 p128 q128
               have hw128_7 := hx128_7
               have hw128_6 := hx128_6
               have hw128_5 := hx128_5
               have hw128_4 := hx128_4
               have hw128_3 := hx128_3
               have hw128_2 := hx128_2
               have hw128_1 := hx128_1
               have hw128_0 := hx128_0
               obtain rfl : ad123 = ad128 := (by injection e128)
               replace hx128_0 := hc_ HB hx128_0
               replace hx128_1 := hc_ HB hx128_1
               replace hx128_2 := hc_ HB hx128_2
               replace hx128_3 := hc_ HB hx128_3
               replace hx128_4 := hc_ HB hx128_4
               replace hx128_5 := hc_ HB hx128_5
               replace hx128_6 := hc_ HB hx128_6
               replace hx128_7 := hc_ HB hx128_7
               replace p128 := eq_true p128
               replace q128 := eq_true q128
               have p129 : 0 ≤ (x5_2 : Int) := of_decide_eq_true (by first | (with_reducible assumption) | assumption)
               have q129 : x5_2 < (l0.length : Int) := of_decide_eq_true (by first | (with_reducible assumption) | assumption)
               obtain ⟨ad129, e129, hx129_0, hx129_1, hx129_2, hx129_3, hx129_4, hx129_5, hx129_6, hx129_7⟩ := at_T46 HR0.out x5_2 p129 q129
               have hw129_7 := hx129_7
               have hw129_6 := hx129_6
               have hw129_5 := hx129_5
               have hw129_4 := hx129_4
               have hw129_3 := hx129_3
               have hw129_2 := hx129_2
               have hw129_1 := hx129_1
               have hw129_0 := hx129_0
               obtain rfl : ad123 = ad129 := (by injection e129)
               replace hx129_0 := hc_ HB hx129_0
               replace hx129_1 := hc_ HB hx129_1
               replace hx129_2 := hc_ HB hx129_2
               replace hx129_3 := hc_ HB hx129_3
               replace hx129_4 := hc_ HB hx129_4
               replace hx129_5 := hc_ HB hx129_5
               replace hx129_6 := hc_ HB hx129_6
               replace hx129_7 := hc_ HB hx129_7
               replace p129 := eq_true p129
               replace q129 := eq_true q129
               have p131 : 0 ≤ (x5_2 : Int) := of_decide_eq_true (by first | (with_reducible assumption) | assumption)
               have q131 : x5_2 < (l0.length : Int) := of_decide_eq_true (by first | (with_reducible assumption) | assumption)
               obtain ⟨ad131, e131, hx131_0, hx131_1, hx131_2, hx131_3, hx131_4, hx131_5, hx131_6, hx131_7⟩ := at_T46 HR0.out x5_2 p131 q131
               have hw131_7 := hx131_7
               have hw131_6 := hx131_6
               have hw131_5 := hx131_5
               have hw131_4 := hx131_4
               have hw131_3 := hx131_3
               have hw131_2 := hx131_2
               have hw131_1 := hx131_1
               have hw131_0 := hx131_0
               obtain rfl : ad123 = ad131 := (by injection e131)
               replace hx131_0 := hc_ HB hx131_0
               replace hx131_1 := hc_ HB hx131_1
               replace hx131_2 := hc_ HB hx131_2
               replace hx131_3 := hc_ HB hx131_3
               replace hx131_4 := hc_ HB hx131_4
               replace hx131_5 := hc_ HB hx131_5
               replace hx131_6 := hc_ HB hx131_6
               replace hx131_7 := hc_ HB hx131_7
               replace p131 := eq_true p131
               replace q131 := eq_true q131
               have p132 : 0 ≤ (x5_2 : Int) := of_decide_eq_true (by first | (with_reducible assumption) | assumption)
               have q132 : x5_2 < (l0.length : Int) := of_decide_eq_true (by first | (with_reducible assumption) | assumption)
               obtain ⟨ad132, e132, hx132_0, hx132_1, hx132_2, hx132_3, hx132_4, hx132_5, hx132_6, hx132_7⟩ := at_T46 HR0.out x5_2 p132 q132
               have hw132_7 := hx132_7
               have hw132_6 := hx132_6
               have hw132_5 := hx132_5
               have hw132_4 := hx132_4
               have hw132_3 := hx132_3
               have hw132_2 := hx132_2
               have hw132_1 := hx132_1
               have hw132_0 := hx132_0
               obtain rfl : ad123 = ad132 := (by injection e132)
               replace hx132_0 := hc_ HB hx132_0
               replace hx132_1 := hc_ HB hx132_1
               replace hx132_2 := hc_ HB hx132_2
               replace hx132_3 := hc_ HB hx132_3
               replace hx132_4 := hc_ HB hx132_4
               replace hx132_5 := hc_ HB hx132_5
               replace hx132_6 := hc_ HB hx132_6
               replace hx132_7 := hc_ HB hx132_7
               replace p132 := eq_true p132
               replace q132 := eq_true q132
               have p133 : 0 ≤ (a1 : Int) := of_decide_eq_true (by first | (with_reducible assumption) | assumption)
               have q133 : a1 < (l0.length : Int) := of_decide_eq_true (by first | (with_reducible assumption) | assumption)
               obtain ⟨ad133, e133, hx133_0, hx133_1, hx133_2, hx133_3, hx133_4, hx133_5, hx133_6, hx133_7⟩ := at_T46 HR0.out a1 p133 q133
               have hw133_7 := hx133_7
               have hw133_6 := hx133_6
               have hw133_5 := hx133_5
               have hw133_4 := hx133_4
               have hw133_3 := hx133_3
               have hw133_2 := hx133_2
               have hw133_1 := hx133_1
               have hw133_0 := hx133_0
               obtain rfl : ad123 = ad133 := (by injection e133)
               replace hx133_0 := hc_ HB hx133_0
               replace hx133_1 := hc_ HB hx133_1
               replace hx133_2 := hc_ HB hx133_2
               replace hx133_3 := hc_ HB hx133_3
               replace hx133_4 := hc_ HB hx133_4
               replace hx133_5 := hc_ HB hx133_5
               replace hx133_6 := hc_ HB hx133_6
               replace hx133_7 := hc_ HB hx133_7
               replace p133 := eq_true p133
               replace q133 := eq_true q133
               refine start_ (n := 50) (S := fun w' => w'.cell? (ad123.add ((x5_2).toNat * 8)) = some (.int .i64 ((rd_T46 l0 x5_2).f0)) ∧ w'.cell? ⟨(ad123.add ((x5_2).toNat * 8)).block, (ad123.add ((x5_2).toNat * 8)).off + 1, none⟩ = some (.int .i64 ((rd_T46 l0 x5_2).f1)) ∧ w'.cell? ⟨(ad123.add ((x5_2).toNat * 8)).block, (ad123.add ((x5_2).toNat * 8)).off + 2, none⟩ = some (.int .i64 ((rd_T46 l0 x5_2).f2.f0)) ∧ w'.cell? ⟨(ad123.add ((x5_2).toNat * 8)).block, (ad123.add ((x5_2).toNat * 8)).off + 3, none⟩ = some (.int .i64 ((rd_T46 l0 x5_2).f2.f1)) ∧ w'.cell? ⟨(ad123.add ((x5_2).toNat * 8)).block, (ad123.add ((x5_2).toNat * 8)).off + 4, none⟩ = some (.int .i64 ((rd_T46 l0 x5_2).f3)) ∧ w'.cell? ⟨(ad123.add ((x5_2).toNat * 8)).block, (ad123.add ((x5_2).toNat * 8)).off + 5, none⟩ = some (.int .i64 ((rd_T46 l0 x5_2).f4)) ∧ w'.cell? ⟨(ad123.add ((x5_2).toNat * 8)).block, (ad123.add ((x5_2).toNat * 8)).off + 6, none⟩ = some (.int .i64 ((rd_T46 l0 x5_2).f5.f0)) ∧ w'.cell? ⟨(ad123.add ((x5_2).toNat * 8)).block, (ad123.add ((x5_2).toNat * 8)).off + 7, none⟩ = some (.int .i64 ((rd_T46 l0 x5_2).f5.f1)) ∧ w'.cell? (ad123.add ((x5_2).toNat * 8)) = some (.int .i64 ((rd_T46 l0 x5_2).f0)) ∧ w'.cell? ⟨(ad123.add ((x5_2).toNat * 8)).block, (ad123.add ((x5_2).toNat * 8)).off + 1, none⟩ = some (.int .i64 ((rd_T46 l0 x5_2).f1)) ∧ w'.cell? ⟨(ad123.add ((x5_2).toNat * 8)).block, (ad123.add ((x5_2).toNat * 8)).off + 2, none⟩ = some (.int .i64 ((rd_T46 l0 x5_2).f2.f0)) ∧ w'.cell? ⟨(ad123.add ((x5_2).toNat * 8)).block, (ad123.add ((x5_2).toNat * 8)).off + 3, none⟩ = some (.int .i64 ((rd_T46 l0 x5_2).f2.f1)) ∧ w'.cell? ⟨(ad123.add ((x5_2).toNat * 8)).block, (ad123.add ((x5_2).toNat * 8)).off + 4, none⟩ = some (.int .i64 ((rd_T46 l0 x5_2).f3)) ∧ w'.cell? ⟨(ad123.add ((x5_2).toNat * 8)).block, (ad123.add ((x5_2).toNat * 8)).off + 5, none⟩ = some (.int .i64 ((rd_T46 l0 x5_2).f4)) ∧ w'.cell? ⟨(ad123.add ((x5_2).toNat * 8)).block, (ad123.add ((x5_2).toNat * 8)).off + 6, none⟩ = some (.int .i64 ((rd_T46 l0 x5_2).f5.f0)) ∧ w'.cell? ⟨(ad123.add ((x5_2).toNat * 8)).block, (ad123.add ((x5_2).toNat * 8)).off + 7, none⟩ = some (.int .i64 ((rd_T46 l0 x5_2).f5.f1)) ∧ w'.cell? (ad123.add ((a1).toNat * 8)) = some (.int .i64 ((rd_T46 l0 a1).f0)) ∧ w'.cell? ⟨(ad123.add ((a1).toNat * 8)).block, (ad123.add ((a1).toNat * 8)).off + 1, none⟩ = some (.int .i64 ((rd_T46 l0 a1).f1)) ∧ w'.cell? ⟨(ad123.add ((a1).toNat * 8)).block, (ad123.add ((a1).toNat * 8)).off + 2, none⟩ = some (.int .i64 ((rd_T46 l0 a1).f2.f0)) ∧ w'.cell? ⟨(ad123.add ((a1).toNat * 8)).block, (ad123.add ((a1).toNat * 8)).off + 3, none⟩ = some (.int .i64 ((rd_T46 l0 a1).f2.f1)) ∧ w'.cell? ⟨(ad123.add ((a1).toNat * 8)).block, (ad123.add ((a1).toNat * 8)).off + 4, none⟩ = some (.int .i64 ((rd_T46 l0 a1).f3)) ∧ w'.cell? ⟨(ad123.add ((a1).toNat * 8)).block, (ad123.add ((a1).toNat * 8)).off + 5, none⟩ = some (.int .i64 ((rd_T46 l0 a1).f4)) ∧ w'.cell? ⟨(ad123.add ((a1).toNat * 8)).block, (ad123.add ((a1).toNat * 8)).off + 6, none⟩ = some (.int .i64 ((rd_T46 l0 a1).f5.f0)) ∧ w'.cell? ⟨(ad123.add ((a1).toNat * 8)).block, (ad123.add ((a1).toNat * 8)).off + 7, none⟩ = some (.int .i64 ((rd_T46 l0 a1).f5.f1)) ∧ w'.cell? (ad123.add ((a1).toNat * 8)) = some (.int .i64 ((rd_T46 l0 a1).f0)) ∧ w'.cell? ⟨(ad123.add ((a1).toNat * 8)).block, (ad123.add ((a1).toNat * 8)).off + 1, none⟩ = some (.int .i64 ((rd_T46 l0 a1).f1)) ∧ w'.cell? ⟨(ad123.add ((a1).toNat * 8)).block, (ad123.add ((a1).toNat * 8)).off + 2, none⟩ = some (.int .i64 ((rd_T46 l0 a1).f2.f0)) ∧ w'.cell? ⟨(ad123.add ((a1).toNat * 8)).block, (ad123.add ((a1).toNat * 8)).off + 3, none⟩ = some (.int .i64 ((rd_T46 l0 a1).f2.f1)) ∧ w'.cell? ⟨(ad123.add ((a1).toNat * 8)).block, (ad123.add ((a1).toNat * 8)).off + 4, none⟩ = some (.int .i64 ((rd_T46 l0 a1).f3)) ∧ w'.cell? ⟨(ad123.add ((a1).toNat * 8)).block, (ad123.add ((a1).toNat * 8)).off + 5, none⟩ = some (.int .i64 ((rd_T46 l0 a1).f4)) ∧ w'.cell? ⟨(ad123.add ((a1).toNat * 8)).block, (ad123.add ((a1).toNat * 8)).off + 6, none⟩ = some (.int .i64 ((rd_T46 l0 a1).f5.f0)) ∧ w'.cell? ⟨(ad123.add ((a1).toNat * 8)).block, (ad123.add ((a1).toNat * 8)).off + 7, none⟩ = some (.int .i64 ((rd_T46 l0 a1).f5.f1)) ∧ w'.cell? (ad123.add ((x5_2).toNat * 8)) = some (.int .i64 ((rd_T46 l0 x5_2).f0)) ∧ w'.cell? ⟨(ad123.add ((x5_2).toNat * 8)).block, (ad123.add ((x5_2).toNat * 8)).off + 1, none⟩ = some (.int .i64 ((rd_T46 l0 x5_2).f1)) ∧ w'.cell? ⟨(ad123.add ((x5_2).toNat * 8)).block, (ad123.add ((x5_2).toNat * 8)).off + 2, none⟩ = some (.int .i64 ((rd_T46 l0 x5_2).f2.f0)) ∧ w'.cell? ⟨(ad123.add ((x5_2).toNat * 8)).block, (ad123.add ((x5_2).toNat * 8)).off + 3, none⟩ = some (.int .i64 ((rd_T46 l0 x5_2).f2.f1)) ∧ w'.cell? ⟨(ad123.add ((x5_2).toNat * 8)).block, (ad123.add ((x5_2).toNat * 8)).off + 4, none⟩ = some (.int .i64 ((rd_T46 l0 x5_2).f3)) ∧ w'.cell? ⟨(ad123.add ((x5_2).toNat * 8)).block, (ad123.add ((x5_2).toNat * 8)).off + 5, none⟩ = some (.int .i64 ((rd_T46 l0 x5_2).f4)) ∧ w'.cell? ⟨(ad123.add ((x5_2).toNat * 8)).block, (ad123.add ((x5_2).toNat * 8)).off + 6, none⟩ = some (.int .i64 ((rd_T46 l0 x5_2).f5.f0)) ∧ w'.cell? ⟨(ad123.add ((x5_2).toNat * 8)).block, (ad123.add ((x5_2).toNat * 8)).off + 7, none⟩ = some (.int .i64 ((rd_T46 l0 x5_2).f5.f1)) ∧ w'.cell? (ad123.add ((x5_2).toNat * 8)) = some (.int .i64 ((rd_T46 l0 x5_2).f0)) ∧ w'.cell? ⟨(ad123.add ((x5_2).toNat * 8)).block, (ad123.add ((x5_2).toNat * 8)).off + 1, none⟩ = some (.int .i64 ((rd_T46 l0 x5_2).f1)) ∧ w'.cell? ⟨(ad123.add ((x5_2).toNat * 8)).block, (ad123.add ((x5_2).toNat * 8)).off + 2, none⟩ = some (.int .i64 ((rd_T46 l0 x5_2).f2.f0)) ∧ w'.cell? ⟨(ad123.add ((x5_2).toNat * 8)).block, (ad123.add ((x5_2).toNat * 8)).off + 3, none⟩ = some (.int .i64 ((rd_T46 l0 x5_2).f2.f1)) ∧ w'.cell? ⟨(ad123.add ((x5_2).toNat * 8)).block, (ad123.add ((x5_2).toNat * 8)).off + 4, none⟩ = some (.int .i64 ((rd_T46 l0 x5_2).f3)) ∧ w'.cell? ⟨(ad123.add ((x5_2).toNat * 8)).block, (ad123.add ((x5_2).toNat * 8)).off + 5, none⟩ = some (.int .i64 ((rd_T46 l0 x5_2).f4)) ∧ w'.cell? ⟨(ad123.add ((x5_2).toNat * 8)).block, (ad123.add ((x5_2).toNat * 8)).off + 6, none⟩ = some (.int .i64 ((rd_T46 l0 x5_2).f5.f0)) ∧ w'.cell? ⟨(ad123.add ((x5_2).toNat * 8)).block, (ad123.add ((x5_2).toNat * 8)).off + 7, none⟩ = some (.int .i64 ((rd_T46 l0 x5_2).f5.f1)) ∧ w'.cell? (ad123.add ((x5_2).toNat * 8)) = some (.int .i64 ((rd_T46 l0 x5_2).f0)) ∧ w'.cell? ⟨(ad123.add ((x5_2).toNat * 8)).block, (ad123.add ((x5_2).toNat * 8)).off + 1, none⟩ = some (.int .i64 ((rd_T46 l0 x5_2).f1)) ∧ w'.cell? ⟨(ad123.add ((x5_2).toNat * 8)).block, (ad123.add ((x5_2).toNat * 8)).off + 2, none⟩ = some (.int .i64 ((rd_T46 l0 x5_2).f2.f0)) ∧ w'.cell? ⟨(ad123.add ((x5_2).toNat * 8)).block, (ad123.add ((x5_2).toNat * 8)).off + 3, none⟩ = some (.int .i64 ((rd_T46 l0 x5_2).f2.f1)) ∧ w'.cell? ⟨(ad123.add ((x5_2).toNat * 8)).block, (ad123.add ((x5_2).toNat * 8)).off + 4, none⟩ = some (.int .i64 ((rd_T46 l0 x5_2).f3)) ∧ w'.cell? ⟨(ad123.add ((x5_2).toNat * 8)).block, (ad123.add ((x5_2).toNat * 8)).off + 5, none⟩ = some (.int .i64 ((rd_T46 l0 x5_2).f4)) ∧ w'.cell? ⟨(ad123.add ((x5_2).toNat * 8)).block, (ad123.add ((x5_2).toNat * 8)).off + 6, none⟩ = some (.int .i64 ((rd_T46 l0 x5_2).f5.f0)) ∧ w'.cell? ⟨(ad123.add ((x5_2).toNat * 8)).block, (ad123.add ((x5_2).toNat * 8)).off + 7, none⟩ = some (.int .i64 ((rd_T46 l0 x5_2).f5.f1)) ∧ w'.cell? (ad123.add ((a1).toNat * 8)) = some (.int .i64 ((rd_T46 l0 a1).f0)) ∧ w'.cell? ⟨(ad123.add ((a1).toNat * 8)).block, (ad123.add ((a1).toNat * 8)).off + 1, none⟩ = some (.int .i64 ((rd_T46 l0 a1).f1)) ∧ w'.cell? ⟨(ad123.add ((a1).toNat * 8)).block, (ad123.add ((a1).toNat * 8)).off + 2, none⟩ = some (.int .i64 ((rd_T46 l0 a1).f2.f0)) ∧ w'.cell? ⟨(ad123.add ((a1).toNat * 8)).block, (ad123.add ((a1).toNat * 8)).off + 3, none⟩ = some (.int .i64 ((rd_T46 l0 a1).f2.f1)) ∧ w'.cell? ⟨(ad123.add ((a1).toNat * 8)).block, (ad123.add ((a1).toNat * 8)).off + 4, none⟩ = some (.int .i64 ((rd_T46 l0 a1).f3)) ∧ w'.cell? ⟨(ad123.add ((a1).toNat * 8)).block, (ad123.add ((a1).toNat * 8)).off + 5, none⟩ = some (.int .i64 ((rd_T46 l0 a1).f4)) ∧ w'.cell? ⟨(ad123.add ((a1).toNat * 8)).block, (ad123.add ((a1).toNat * 8)).off + 6, none⟩ = some (.int .i64 ((rd_T46 l0 a1).f5.f0)) ∧ w'.cell? ⟨(ad123.add ((a1).toNat * 8)).block, (ad123.add ((a1).toNat * 8)).off + 7, none⟩ = some (.int .i64 ((rd_T46 l0 a1).f5.f1))) (ds := []) #[z,z,z,z,z,z,z,z,z,z,z,z,z,z,z,z,z,z,z,z,z,z,z,z,z,z,z,z,z,z,z,z,z,z,z,z,z,z,z,z,z,z,z,z,z,z,z,z,z,z] (by kernel_rfl) rfl rfl ⟨(hc_ HB hw123_0), (hc_ HB hw123_1), (hc_ HB hw123_2), (hc_ HB hw123_3), (hc_ HB hw123_4), (hc_ HB hw123_5), (hc_ HB hw123_6), (hc_ HB hw123_7), (hc_ HB hw125_0), (hc_ HB hw125_1), (hc_ HB hw125_2), (hc_ HB hw125_3), (hc_ HB hw125_4), (hc_ HB hw125_5), (hc_ HB hw125_6), (hc_ HB hw125_7), (hc_ HB hw126_0), (hc_ HB hw126_1), (hc_ HB hw126_2), (hc_ HB hw126_3), (hc_ HB hw126_4), (hc_ HB hw126_5), (hc_ HB hw126_6), (hc_ HB hw126_7), (hc_ HB hw128_0), (hc_ HB hw128_1), (hc_ HB hw128_2), (hc_ HB hw128_3), (hc_ HB hw128_4), (hc_ HB hw128_5), (hc_ HB hw128_6), (hc_ HB hw128_7), (hc_ HB hw129_0), (hc_ HB hw129_1), (hc_ HB hw129_2), (hc_ HB hw129_3), (hc_ HB hw129_4), (hc_ HB hw129_5), (hc_ HB hw129_6), (hc_ HB hw129_7), (hc_ HB hw131_0), (hc_ HB hw131_1), (hc_ HB hw131_2), (hc_ HB hw131_3), (hc_ HB hw131_4), (hc_ HB hw131_5), (hc_ HB hw131_6), (hc_ HB hw131_7), (hc_ HB hw132_0), (hc_ HB hw132_1), (hc_ HB hw132_2), (hc_ HB hw132_3), (hc_ HB hw132_4), (hc_ HB hw132_5), (hc_ HB hw132_6), (hc_ HB hw132_7), (hc_ HB hw133_0), (hc_ HB hw133_1), (hc_ HB hw133_2), (hc_ HB hw133_3), (hc_ HB hw133_4), (hc_ HB hw133_5), (hc_ HB hw133_6), (hc_ HB hw133_7)⟩ (fun hHeld => ?_); refine with_tabW spec_IsShadowed.tab6 spec_IsShadowed.bits6 (fun HT_ HW_ => ?_)
               generalize wr.drew = w27 at HB hx123_0 hx123_1 hx123_2 hx123_3 hx123_4 hx123_5 hx123_6 hx123_7 hx125_0 hx125_1 hx125_2 hx125_3 hx125_4 hx125_5 hx125_6 hx125_7 hx126_0 hx126_1 hx126_2 hx126_3 hx126_4 hx126_5 hx126_6 hx126_7 hx128_0 hx128_1 hx128_2 hx128_3 hx128_4 hx128_5 hx128_6 hx128_7 hx129_0 hx129_1 hx129_2 hx129_3 hx129_4 hx129_5 hx129_6 hx129_7 hx131_0 hx131_1 hx131_2 hx131_3 hx131_4 hx131_5 hx131_6 hx131_7 hx132_0 hx132_1 hx132_2 hx132_3 hx132_4 hx132_5 hx132_6 hx132_7 hx133_0 hx133_1 hx133_2 hx133_3 hx133_4 hx133_5 hx133_6 hx133_7 hHeld ⊢
               refine pure_ (i := 0) (N := some 26) (v := ?_) (a' := ?_) #[o,z,z,z,z,z,z,z,z,z,z,z,z,z,z,z,z,z,z,z,z,z,z,z,z,z,z,z,z,z,z,z,z,z,z,z,z,z,z,z,z,z,z,z,z,z,z,z,z,z] rfl rfl (any_of HT_.out (by kernel_rfl)) (fun _ _ _ h => h) (Or.inl ⟨by rfl, ?_⟩) ?_ ?_
               rotate_left
               ·intro w'
                go_simp
                with_reducible rfl
               rotate_left
               ·simp only [Act.put, qa, qb, qc, i64_w, i32_w]
                rfl
               refine pure_ (i := 1) (N := some 27) (v := ?_) (a' := ?_) #[o,o,z,z,z,z,z,z,z,z,z,z,z,z,z,z,z,z,z,z,z,z,z,z,z,z,z,z,z,z,z,z,z,z,z,z,z,z,z,z,z,z,z,z,z,z,z,z,z,z] rfl rfl (any_of HT_.out (by kernel_rfl)) (fun _ _ _ h => h) (Or.inl ⟨by rfl, ?_⟩) ?_ ?_
               rotate_left
               ·intro w'
                go_simp
                with_reducible rfl
               rotate_left
               ·simp only [Act.put, qa, qb, qc, i64_w, i32_w]
                rfl
               refine pure_ (i := 2) (N := some 28) (v := ?_) (a' := ?_) #[o,o,o,z,z,z,z,z,z,z,z,z,z,z,z,z,z,z,z,z,z,z,z,z,z,z,z,z,z,z,z,z,z,z,z,z,z,z,z,z,z,z,z,z,z,z,z,z,z,z] rfl rfl (any_of HT_.out (by kernel_rfl)) (fun _ _ _ h => h) (Or.inl ⟨by rfl, ?_⟩) ?_ ?_
               rotate_left
               ·intro w'
                go_simp
                with_reducible rfl
               rotate_left
               ·simp only [Act.put, qa, qb, qc, i64_w, i32_w]
                rfl
               refine take_ (i := 3) (N := some 29) (v := ?_) (a' := ?_) #[o,o,o,o,z,z,z,z,z,z,z,z,z,z,z,z,z,z,z,z,z,z,z,z,z,z,z,z,z,z,z,z,z,z,z,z,z,z,z,z,z,z,z,z,z,z,z,z,z,z] rfl rfl (take_ofW HT_.out HW_.out (by kernel_rfl)) (fun _ _ _ h => h) (Or.inl ⟨by rfl, ?_⟩) hHeld ?_ ?_
               rotate_left
               ·rintro w' ⟨s0, s1, s2, s3, s4, s5, s6, s7, s8, s9, s10, s11, s12, s13, s14, s15, s16, s17, s18, s19, s20, s21, s22, s23, s24, s25, s26, s27, s28, s29, s30, s31, s32, s33, s34, s35, s36, s37, s38, s39, s40, s41, s42, s43, s44, s45, s46, s47, s48, s49, s50, s51, s52, s53, s54, s55, s56, s57, s58, s59, s60, s61, s62, s63⟩
                go_simp
                with_reducible rfl
               rotate_left
               ·simp only [Act.put, qa, qb, qc, i64_w, i32_w]
                rfl
               refine one_ (i := 4) (N := some 30) #[o,o,o,o,o,z,z,z,z,z,z,z,z,z,z,z,z,z,z,z,z,z,z,z,z,z,z,z,z,z,z,z,z,z,z,z,z,z,z,z,z,z,z,z,z,z,z,z,z,z] rfl rfl (one_of HT_.out (by kernel_rfl)) (by decide) (fun K hK => ?_)
               refine goes_ Try.func25 (by kernel_rfl) rfl #[.agg #[.int .i64 ((rd_T46 l0 x5_2).f0), .int .i64 ((rd_T46 l0 x5_2).f1), .int .i64 ((rd_T46 l0 x5_2).f2.f0), .int .i64 ((rd_T46 l0 x5_2).f2.f1), .int .i64 ((rd_T46 l0 x5_2).f3), .int .i64 ((rd_T46 l0 x5_2).f4), .int .i64 ((rd_T46 l0 x5_2).f5.f0), .int .i64 ((rd_T46 l0 x5_2).f5.f1)]] (by rfl) rfl rfl (by (try simp only [List.map_toArray, List.map_cons, List.map_nil]); first | done | rfl | (simp only [List.length_drop, List.length_take]; rfl)) ?_
               with_reducible refine (spec_IsRule.calls ((rd_T46 l0 x5_2).f0) ((rd_T46 l0 x5_2).f1) ((rd_T46 l0 x5_2).f2.f0) ((rd_T46 l0 x5_2).f2.f1) ((rd_T46 l0 x5_2).f3) ((rd_T46 l0 x5_2).f4) ((rd_T46 l0 x5_2).f5.f0) ((rd_T46 l0 x5_2).f5.f1) true _ A13.out).mono ?_
               rintro e w28 ⟨rfl, hb⟩
               refine ⟨_, rfl, ?_⟩
               replace HB := am (below_step (sB HB.out) hb)
               (try clear hb)
               (try clear hb2)
               (try clear hk)
               (try clear hi)
               refine hK.out _ _ ⟨(hc_ HB hw123_0), (hc_ HB hw123_1), (hc_ HB hw123_2), (hc_ HB hw123_3), (hc_ HB hw123_4), (hc_ HB hw123_5), (hc_ HB hw123_6), (hc_ HB hw123_7), (hc_ HB hw125_0), (hc_ HB hw125_1), (hc_ HB hw125_2), (hc_ HB hw125_3), (hc_ HB hw125_4), (hc_ HB hw125_5), (hc_ HB hw125_6), (hc_ HB hw125_7), (hc_ HB hw126_0), (hc_ HB hw126_1), (hc_ HB hw126_2), (hc_ HB hw126_3), (hc_ HB hw126_4), (hc_ HB hw126_5), (hc_ HB hw126_6), (hc_ HB hw126_7), (hc_ HB hw128_0), (hc_ HB hw128_1), (hc_ HB hw128_2), (hc_ HB hw128_3), (hc_ HB hw128_4), (hc_ HB hw128_5), (hc_ HB hw128_6), (hc_ HB hw128_7), (hc_ HB hw129_0), (hc_ HB hw129_1), (hc_ HB hw129_2), (hc_ HB hw129_3), (hc_ HB hw129_4), (hc_ HB hw129_5), (hc_ HB hw129_6), (hc_ HB hw129_7), (hc_ HB hw131_0), (hc_ HB hw131_1), (hc_ HB hw131_2), (hc_ HB hw131_3), (hc_ HB hw131_4), (hc_ HB hw131_5), (hc_ HB hw131_6), (hc_ HB hw131_7), (hc_ HB hw132_0), (hc_ HB hw132_1), (hc_ HB hw132_2), (hc_ HB hw132_3), (hc_ HB hw132_4), (hc_ HB hw132_5), (hc_ HB hw132_6), (hc_ HB hw132_7), (hc_ HB hw133_0), (hc_ HB hw133_1), (hc_ HB hw133_2), (hc_ HB hw133_3), (hc_ HB hw133_4), (hc_ HB hw133_5), (hc_ HB hw133_6), (hc_ HB hw133_7)⟩ (fun hHeld => ?_)
               clear hK K
               refine norm_ (a' := ?_) ?_ ?_
               rotate_left
               ·show Act.put _ (some 30) _ = _
                simp only [Act.put, qa, qb, qc, i64_w, i32_w]
                rfl
               refine pure_ (i := 5) (N := some 31) (v := ?_) (a' := ?_) #[o,o,o,o,o,o,z,z,z,z,z,z,z,z,z,z,z,z,z,z,z,z,z,z,z,z,z,z,z,z,z,z,z,z,z,z,z,z,z,z,z,z,z,z,z,z,z,z,z,z] rfl rfl (any_of HT_.out (by kernel_rfl)) (fun _ _ _ h => h) (Or.inl ⟨by rfl, ?_⟩) ?_ ?_
               rotate_left
               ·intro w'
                go_simp
                with_reducible rfl
               rotate_left
               ·simp only [Act.put, qa, qb, qc, i64_w, i32_w]
                rfl
               refine pure_ (i := 6) (N := some 32) (v := ?_) (a' := ?_) #[o,o,o,o,o,o,o,z,z,z,z,z,z,z,z,z,z,z,z,z,z,z,z,z,z,z,z,z,z,z,z,z,z,z,z,z,z,z,z,z,z,z,z,z,z,z,z,z,z,z] rfl rfl (any_of HT_.out (by kernel_rfl)) (fun _ _ _ h => h) (Or.inl ⟨by rfl, ?_⟩) ?_ ?_
               rotate_left
               ·intro w'
                go_simp
                with_reducible rfl
               rotate_left
               ·simp only [Act.put, qa, qb, qc, i64_w, i32_w]
                rfl
               refine pure_ (i := 7) (N := some 33) (v := ?_) (a' := ?_) #[o,o,o,o,o,o,o,o,z,z,z,z,z,z,z,z,z,z,z,z,z,z,z,z,z,z,z,z,z,z,z,z,z,z,z,z,z,z,z,z,z,z,z,z,z,z,z,z,z,z] rfl rfl (any_of HT_.out (by kernel_rfl)) (fun _ _ _ h => h) (Or.inl ⟨by rfl, ?_⟩) ?_ ?_
               rotate_left
               ·intro w'
                go_simp
                with_reducible rfl
               rotate_left
               ·simp only [Act.put, qa, qb, qc, i64_w, i32_w]
                rfl
               refine pure_ (i := 8) (N := some 34) (v := ?_) (a' := ?_) #[o,o,o,o,o,o,o,o,o,z,z,z,z,z,z,z,z,z,z,z,z,z,z,z,z,z,z,z,z,z,z,z,z,z,z,z,z,z,z,z,z,z,z,z,z,z,z,z,z,z] rfl rfl (any_of HT_.out (by kernel_rfl)) (fun _ _ _ h => h) (Or.inl ⟨by rfl, ?_⟩) ?_ ?_
               rotate_left
               ·intro w'
                go_simp
                with_reducible rfl
               rotate_left
               ·simp only [Act.put, qa, qb, qc, i64_w, i32_w]
                rfl
               refine pure_ (i := 10) (N := some 36) (v := ?_) (a' := ?_) #[o,o,o,o,o,o,o,o,o,z,o,z,z,z,z,z,z,z,z,z,z,z,z,z,z,z,z,z,z,z,z,z,z,z,z,z,z,z,z,z,z,z,z,z,z,z,z,z,z,z] rfl rfl (any_of HT_.out (by kernel_rfl)) (fun _ _ _ h => h) (Or.inl ⟨by rfl, ?_⟩) ?_ ?_
               rotate_left
               ·intro w'
                go_simp
                with_reducible rfl
               rotate_left
               ·simp only [Act.put, qa, qb, qc, i64_w, i32_w]
                rfl
               refine pure_ (i := 11) (N := some 37) (v := ?_) (a' := ?_) #[o,o,o,o,o,o,o,o,o,z,o,o,z,z,z,z,z,z,z,z,z,z,z,z,z,z,z,z,z,z,z,z,z,z,z,z,z,z,z,z,z,z,z,z,z,z,z,z,z,z] rfl rfl (any_of HT_.out (by kernel_rfl)) (fun _ _ _ h => h) (Or.inl ⟨by rfl, ?_⟩) ?_ ?_
               rotate_left
               ·intro w'
                go_simp
                with_reducible rfl
               rotate_left
               ·simp only [Act.put, qa, qb, qc, i64_w, i32_w]
                rfl
               refine pure_ (i := 12) (N := some 38) (v := ?_) (a' := ?_) #[o,o,o,o,o,o,o,o,o,z,o,o,o,z,z,z,z,z,z,z,z,z,z,z,z,z,z,z,z,z,z,z,z,z,z,z,z,z,z,z,z,z,z,z,z,z,z,z,z,z] rfl rfl (any_of HT_.out (by kernel_rfl)) (fun _ _ _ h => h) (Or.inl ⟨by rfl, ?_⟩) ?_ ?_
               rotate_left
               ·intro w'
                go_simp
                with_reducible rfl
               rotate_left
               ·simp only [Act.put, qa, qb, qc, i64_w, i32_w]
                rfl
               refine take_ (i := 9) (N := some 35) (v := ?_) (a' := ?_) #[o,o,o,o,o,o,o,o,o,o,o,o,o,z,z,z,z,z,z,z,z,z,z,z,z,z,z,z,z,z,z,z,z,z,z,z,z,z,z,z,z,z,z,z,z,z,z,z,z,z] rfl rfl (take_ofW HT_.out HW_.out (by kernel_rfl)) (fun _ _ _ h => h) (Or.inl ⟨by rfl, ?_⟩) hHeld ?_ ?_
               rotate_left
               ·rintro w' ⟨s0, s1, s2, s3, s4, s5, s6, s7, s8, s9, s10, s11, s12, s13, s14, s15, s16, s17, s18, s19, s20, s21, s22, s23, s24, s25, s26, s27, s28, s29, s30, s31, s32, s33, s34, s35, s36, s37, s38, s39, s40, s41, s42, s43, s44, s45, s46, s47, s48, s49, s50, s51, s52, s53, s54, s55, s56, s57, s58, s59, s60, s61, s62, s63⟩
                go_simp
                with_reducible rfl
               rotate_left
               ·simp only [Act.put, qa, qb, qc, i64_w, i32_w]
                rfl
               refine take_ (i := 13) (N := some 39) (v := ?_) (a' := ?_) #[o,o,o,o,o,o,o,o,o,o,o,o,o,o,z,z,z,z,z,z,z,z,z,z,z,z,z,z,z,z,z,z,z,z,z,z,z,z,z,z,z,z,z,z,z,z,z,z,z,z] rfl rfl (take_ofW HT_.out HW_.out (by kernel_rfl)) (fun _ _ _ h => h) (Or.inl ⟨by rfl, ?_⟩) hHeld ?_ ?_
               rotate_left
               ·rintro w' ⟨s0, s1, s2, s3, s4, s5, s6, s7, s8, s9, s10, s11, s12, s13, s14, s15, s16, s17, s18, s19, s20, s21, s22, s23, s24, s25, s26, s27, s28, s29, s30, s31, s32, s33, s34, s35, s36, s37, s38, s39, s40, s41, s42, s43, s44, s45, s46, s47, s48, s49, s50, s51, s52, s53, s54, s55, s56, s57, s58, s59, s60, s61, s62, s63⟩
                go_simp
                with_reducible rfl
               rotate_left
               ·simp only [Act.put, qa, qb, qc, i64_w, i32_w]
                rfl
               refine one_ (i := 14) (N := some 40) #[o,o,o,o,o,o,o,o,o,o,o,o,o,o,o,z,z,z,z,z,z,z,z,z,z,z,z,z,z,z,z,z,z,z,z,z,z,z,z,z,z,z,z,z,z,z,z,z,z,z] rfl rfl (one_of HT_.out (by kernel_rfl)) (by decide) (fun K hK => ?_)
               refine goes_ Try.func26 (by kernel_rfl) rfl #[.agg #[.int .i64 ((rd_T46 l0 x5_2).f0), .int .i64 ((rd_T46 l0 x5_2).f1), .int .i64 ((rd_T46 l0 x5_2).f2.f0), .int .i64 ((rd_T46 l0 x5_2).f2.f1), .int .i64 ((rd_T46 l0 x5_2).f3), .int .i64 ((rd_T46 l0 x5_2).f4), .int .i64 ((rd_T46 l0 x5_2).f5.f0), .int .i64 ((rd_T46 l0 x5_2).f5.f1)], .agg #[.int .i64 ((rd_T46 l0 a1).f0), .int .i64 ((rd_T46 l0 a1).f1), .int .i64 ((rd_T46 l0 a1).f2.f0), .int .i64 ((rd_T46 l0 a1).f2.f1), .int .i64 ((rd_T46 l0 a1).f3), .int .i64 ((rd_T46 l0 a1).f4), .int .i64 ((rd_T46 l0 a1).f5.f0), .int .i64 ((rd_T46 l0 a1).f5.f1)]] (by rfl) rfl rfl (by (try simp only [List.map_toArray, List.map_cons, List.map_nil]); first | done | rfl | (simp only [List.length_drop, List.length_take]; rfl)) ?_
               with_reducible refine (spec_IsBefore.calls ((rd_T46 l0 x5_2).f0) ((rd_T46 l0 x5_2).f1) ((rd_T46 l0 x5_2).f2.f0) ((rd_T46 l0 x5_2).f2.f1) ((rd_T46 l0 x5_2).f3) ((rd_T46 l0 x5_2).f4) ((rd_T46 l0 x5_2).f5.f0) ((rd_T46 l0 x5_2).f5.f1) ((rd_T46 l0 a1).f0) ((rd_T46 l0 a1).f1) ((rd_T46 l0 a1).f2.f0) ((rd_T46 l0 a1).f2.f1) ((rd_T46 l0 a1).f3) ((rd_T46 l0 a1).f4) ((rd_T46 l0 a1).f5.f0) ((rd_T46 l0 a1).f5.f1) true _ A17.out).mono ?_
               rintro e w29 ⟨rfl, hb⟩
               refine ⟨_, rfl, ?_⟩
               replace HB := am (below_step (sB HB.out) hb)
               (try clear hb)
               (try clear hb2)
               (try clear hk)
               (try clear hi)
               refine hK.out _ _ ⟨(hc_ HB hw123_0), (hc_ HB hw123_1), (hc_ HB hw123_2), (hc_ HB hw123_3), (hc_ HB hw123_4), (hc_ HB hw123_5), (hc_ HB hw123_6), (hc_ HB hw123_7), (hc_ HB hw125_0), (hc_ HB hw125_1), (hc_ HB hw125_2), (hc_ HB hw125_3), (hc_ HB hw125_4), (hc_ HB hw125_5), (hc_ HB hw125_6), (hc_ HB hw125_7), (hc_ HB hw126_0), (hc_ HB hw126_1), (hc_ HB hw126_2), (hc_ HB hw126_3), (hc_ HB hw126_4), (hc_ HB hw126_5), (hc_ HB hw126_6), (hc_ HB hw126_7), (hc_ HB hw128_0), (hc_ HB hw128_1), (hc_ HB hw128_2), (hc_ HB hw128_3), (hc_ HB hw128_4), (hc_ HB hw128_5), (hc_ HB hw128_6), (hc_ HB hw128_7), (hc_ HB hw129_0), (hc_ HB hw129_1), (hc_ HB hw129_2), (hc_ HB hw129_3), (hc_ HB hw129_4), (hc_ HB hw129_5), (hc_ HB hw129_6), (hc_ HB hw129_7), (hc_ HB hw131_0), (hc_ HB hw131_1), (hc_ HB hw131_2), (hc_ HB hw131_3), (hc_ HB hw131_4), (hc_ HB hw131_5), (hc_ HB hw131_6), (hc_ HB hw131_7), (hc_ HB hw132_0), (hc_ HB hw132_1), (hc_ HB hw132_2), (hc_ HB hw132_3), (hc_ HB hw132_4), (hc_ HB hw132_5), (hc_ HB hw132_6), (hc_ HB hw132_7), (hc_ HB hw133_0), (hc_ HB hw133_1), (hc_ HB hw133_2), (hc_ HB hw133_3), (hc_ HB hw133_4), (hc_ HB hw133_5), (hc_ HB hw133_6), (hc_ HB hw133_7)⟩ (fun hHeld => ?_)
               clear hK K
               refine norm_ (a' := ?_) ?_ ?_
               rotate_left
               ·show Act.put _ (some 40) _ = _
                simp only [Act.put, qa, qb, qc, i64_w, i32_w]
                rfl
               refine pure_ (i := 15) (N := some 41) (v := ?_) (a' := ?_) #[o,o,o,o,o,o,o,o,o,o,o,o,o,o,o,o,z,z,z,z,z,z,z,z,z,z,z,z,z,z,z,z,z,z,z,z,z,z,z,z,z,z,z,z,z,z,z,z,z,z] rfl rfl (any_of HT_.out (by kernel_rfl)) (fun _ _ _ h => h) (Or.inl ⟨by rfl, ?_⟩) ?_ ?_
               rotate_left
               ·intro w'
                go_simp
                with_reducible rfl
               rotate_left
               ·simp only [Act.put, qa, qb, qc, i64_w, i32_w]
                rfl
               refine pure_ (i := 16) (N := some 42) (v := ?_) (a' := ?_) #[o,o,o,o,o,o,o,o,o,o,o,o,o,o,o,o,o,z,z,z,z,z,z,z,z,z,z,z,z,z,z,z,z,z,z,z,z,z,z,z,z,z,z,z,z,z,z,z,z,z] rfl rfl (any_of HT_.out (by kernel_rfl)) (fun _ _ _ h => h) (Or.inl ⟨by rfl, ?_⟩) ?_ ?_
               rotate_left
               ·intro w'
                go_simp
                with_reducible rfl
               rotate_left
               ·simp only [Act.put, qa, qb, qc, i64_w, i32_w]
                rfl
               refine pure_ (i := 17) (N := some 43) (v := ?_) (a' := ?_) #[o,o,o,o,o,o,o,o,o,o,o,o,o,o,o,o,o,o,z,z,z,z,z,z,z,z,z,z,z,z,z,z,z,z,z,z,z,z,z,z,z,z,z,z,z,z,z,z,z,z] rfl rfl (any_of HT_.out (by kernel_rfl)) (fun _ _ _ h => h) (Or.inl ⟨by rfl, ?_⟩) ?_ ?_
               rotate_left
               ·intro w'
                go_simp
                with_reducible rfl
               rotate_left
               ·simp only [Act.put, qa, qb, qc, i64_w, i32_w]
                rfl
               refine pure_ (i := 18) (N := some 44) (v := ?_) (a' := ?_) #[o,o,o,o,o,o,o,o,o,o,o,o,o,o,o,o,o,o,o,z,z,z,z,z,z,z,z,z,z,z,z,z,z,z,z,z,z,z,z,z,z,z,z,z,z,z,z,z,z,z] rfl rfl (any_of HT_.out (by kernel_rfl)) (fun _ _ _ h => h) (Or.inl ⟨by rfl, ?_⟩) ?_ ?_
               rotate_left
               ·intro w'
                go_simp
                with_reducible rfl
               rotate_left
               ·simp only [Act.put, qa, qb, qc, i64_w, i32_w]
                rfl
               refine pure_ (i := 19) (N := some 45) (v := ?_) (a' := ?_) #[o,o,o,o,o,o,o,o,o,o,o,o,o,o,o,o,o,o,o,o,z,z,z,z,z,z,z,z,z,z,z,z,z,z,z,z,z,z,z,z,z,z,z,z,z,z,z,z,z,z] rfl rfl (any_of HT_.out (by kernel_rfl)) (fun _ _ _ h => h) (Or.inl ⟨by rfl, ?_⟩) ?_ ?_
               rotate_left
               ·intro w'
                go_simp
                with_reducible rfl
               rotate_left
               ·simp only [Act.put, qa, qb, qc, i64_w, i32_w]
                rfl
               refine pure_ (i := 20) (N := some 46) (v := ?_) (a' := ?_) #[o,o,o,o,o,o,o,o,o,o,o,o,o,o,o,o,o,o,o,o,o,z,z,z,z,z,z,z,z,z,z,z,z,z,z,z,z,z,z,z,z,z,z,z,z,z,z,z,z,z] rfl rfl (any_of HT_.out (by kernel_rfl)) (fun _ _ _ h => h) (Or.inl ⟨by rfl, ?_⟩) ?_ ?_
               rotate_left
               ·intro w'
                go_simp
                with_reducible rfl
               rotate_left
               ·simp only [Act.put, qa, qb, qc, i64_w, i32_w]
                rfl
               refine pure_ (i := 22) (N := some 48) (v := ?_) (a' := ?_) #[o,o,o,o,o,o,o,o,o,o,o,o,o,o,o,o,o,o,o,o,o,z,o,z,z,z,z,z,z,z,z,z,z,z,z,z,z,z,z,z,z,z,z,z,z,z,z,z,z,z] rfl rfl (any_of HT_.out (by kernel_rfl)) (fun _ _ _ h => h) (Or.inl ⟨by rfl, ?_⟩) ?_ ?_
               rotate_left
               ·intro w'
                go_simp
                with_reducible rfl
               rotate_left
               ·simp only [Act.put, qa, qb, qc, i64_w, i32_w]
                rfl
               refine pure_ (i := 23) (N := some 49) (v := ?_) (a' := ?_) #[o,o,o,o,o,o,o,o,o,o,o,o,o,o,o,o,o,o,o,o,o,z,o,o,z,z,z,z,z,z,z,z,z,z,z,z,z,z,z,z,z,z,z,z,z,z,z,z,z,z] rfl rfl (any_of HT_.out (by kernel_rfl)) (fun _ _ _ h => h) (Or.inl ⟨by rfl, ?_⟩) ?_ ?_
               rotate_left
               ·intro w'
                go_simp
                with_reducible rfl
               rotate_left
               ·simp only [Act.put, qa, qb, qc, i64_w, i32_w]
                rfl
               refine pure_ (i := 24) (N := some 50) (v := ?_) (a' := ?_) #[o,o,o,o,o,o,o,o,o,o,o,o,o,o,o,o,o,o,o,o,o,z,o,o,o,z,z,z,z,z,z,z,z,z,z,z,z,z,z,z,z,z,z,z,z,z,z,z,z,z] rfl rfl (any_of HT_.out (by kernel_rfl)) (fun _ _ _ h => h) (Or.inl ⟨by rfl, ?_⟩) ?_ ?_
               rotate_left
               ·intro w'
                go_simp
                with_reducible rfl
               rotate_left
               ·simp only [Act.put, qa, qb, qc, i64_w, i32_w]
                rfl
               refine pure_ (i := 25) (N := some 51) (v := ?_) (a' := ?_) #[o,o,o,o,o,o,o,o,o,o,o,o,o,o,o,o,o,o,o,o,o,z,o,o,o,o,z,z,z,z,z,z,z,z,z,z,z,z,z,z,z,z,z,z,z,z,z,z,z,z] rfl rfl (any_of HT_.out (by kernel_rfl)) (fun _ _ _ h => h) (Or.inl ⟨by rfl, ?_⟩) ?_ ?_
               rotate_left
               ·intro w'
                go_simp
                with_reducible rfl
               rotate_left
               ·simp only [Act.put, qa, qb, qc, i64_w, i32_w]
                rfl
               refine take_ (i := 21) (N := some 47) (v := ?_) (a' := ?_) #[o,o,o,o,o,o,o,o,o,o,o,o,o,o,o,o,o,o,o,o,o,o,o,o,o,o,z,z,z,z,z,z,z,z,z,z,z,z,z,z,z,z,z,z,z,z,z,z,z,z] rfl rfl (take_ofW HT_.out HW_.out (by kernel_rfl)) (fun _ _ _ h => h) (Or.inl ⟨by rfl, ?_⟩) hHeld ?_ ?_
               rotate_left
               ·rintro w' ⟨s0, s1, s2, s3, s4, s5, s6, s7, s8, s9, s10, s11, s12, s13, s14, s15, s16, s17, s18, s19, s20, s21, s22, s23, s24, s25, s26, s27, s28, s29, s30, s31, s32, s33, s34, s35, s36, s37, s38, s39, s40, s41, s42, s43, s44, s45, s46, s47, s48, s49, s50, s51, s52, s53, s54, s55, s56, s57, s58, s59, s60, s61, s62, s63⟩
                go_simp
                with_reducible rfl
               rotate_left
               ·simp only [Act.put, qa, qb, qc, i64_w, i32_w]
                rfl
               refine take_ (i := 26) (N := some 52) (v := ?_) (a' := ?_) #[o,o,o,o,o,o,o,o,o,o,o,o,o,o,o,o,o,o,o,o,o,o,o,o,o,o,o,z,z,z,z,z,z,z,z,z,z,z,z,z,z,z,z,z,z,z,z,z,z,z] rfl rfl (take_ofW HT_.out HW_.out (by kernel_rfl)) (fun _ _ _ h => h) (Or.inl ⟨by rfl, ?_⟩) hHeld ?_ ?_
               rotate_left
               ·rintro w' ⟨s0, s1, s2, s3, s4, s5, s6, s7, s8, s9, s10, s11, s12, s13, s14, s15, s16, s17, s18, s19, s20, s21, s22, s23, s24, s25, s26, s27, s28, s29, s30, s31, s32, s33, s34, s35, s36, s37, s38, s39, s40, s41, s42, s43, s44, s45, s46, s47, s48, s49, s50, s51, s52, s53, s54, s55, s56, s57, s58, s59, s60, s61, s62, s63⟩
                go_simp
                with_reducible rfl
               rotate_left
               ·simp only [Act.put, qa, qb, qc, i64_w, i32_w]
                rfl
               refine one_ (i := 27) (N := some 53) #[o,o,o,o,o,o,o,o,o,o,o,o,o,o,o,o,o,o,o,o,o,o,o,o,o,o,o,o,z,z,z,z,z,z,z,z,z,z,z,z,z,z,z,z,z,z,z,z,z,z] rfl rfl (one_of HT_.out (by kernel_rfl)) (by decide) (fun K hK => ?_)
               refine goes_ Try.func27 (by kernel_rfl) rfl #[.agg #[.int .i64 ((rd_T46 l0 a1).f2.f0), .int .i64 ((rd_T46 l0 a1).f2.f1)], .agg #[.int .i64 ((rd_T46 l0 x5_2).f2.f0), .int .i64 ((rd_T46 l0 x5_2).f2.f1)]] (by rfl) rfl rfl (by (try simp only [List.map_toArray, List.map_cons, List.map_nil]); first | done | rfl | (simp only [List.length_drop, List.length_take]; rfl)) ?_
               with_reducible refine (spec_IsNarrower.calls ((rd_T46 l0 a1).f2.f0) ((rd_T46 l0 a1).f2.f1) ((rd_T46 l0 x5_2).f2.f0) ((rd_T46 l0 x5_2).f2.f1) true _ A19.out).mono ?_
               rintro e w30 ⟨rfl, hb⟩
               refine ⟨_, rfl, ?_⟩
               replace HB := am (below_step (sB HB.out) hb)
               (try clear hb)
               (try clear hb2)
               (try clear hk)
               (try clear hi)
               refine hK.out _ _ ⟨(hc_ HB hw123_0), (hc_ HB hw123_1), (hc_ HB hw123_2), (hc_ HB hw123_3), (hc_ HB hw123_4), (hc_ HB hw123_5), (hc_ HB hw123_6), (hc_ HB hw123_7), (hc_ HB hw125_0), (hc_ HB hw125_1), (hc_ HB hw125_2), (hc_ HB hw125_3), (hc_ HB hw125_4), (hc_ HB hw125_5), (hc_ HB hw125_6), (hc_ HB hw125_7), (hc_ HB hw126_0), (hc_ HB hw126_1), (hc_ HB hw126_2), (hc_ HB hw126_3), (hc_ HB hw126_4), (hc_ HB hw126_5), (hc_ HB hw126_6), (hc_ HB hw126_7), (hc_ HB hw128_0), (hc_ HB hw128_1), (hc_ HB hw128_2), (hc_ HB hw128_3), (hc_ HB hw128_4), (hc_ HB hw128_5), (hc_ HB hw128_6), (hc_ HB hw128_7), (hc_ HB hw129_0), (hc_ HB hw129_1), (hc_ HB hw129_2), (hc_ HB hw129_3), (hc_ HB hw129_4), (hc_ HB hw129_5), (hc_ HB hw129_6), (hc_ HB hw129_7), (hc_ HB hw131_0), (hc_ HB hw131_1), (hc_ HB hw131_2), (hc_ HB hw131_3), (hc_ HB hw131_4), (hc_ HB hw131_5), (hc_ HB hw131_6), (hc_ HB hw131_7), (hc_ HB hw132_0), (hc_ HB hw132_1), (hc_ HB hw132_2), (hc_ HB hw132_3), (hc_ HB hw132_4), (hc_ HB hw132_5), (hc_ HB hw132_6), (hc_ HB hw132_7), (hc_ HB hw133_0), (hc_ HB hw133_1), (hc_ HB hw133_2), (hc_ HB hw133_3), (hc_ HB hw133_4), (hc_ HB hw133_5), (hc_ HB hw133_6), (hc_ HB hw133_7)⟩ (fun hHeld => ?_)
               clear hK K
               refine norm_ (a' := ?_) ?_ ?_
               rotate_left
               ·show Act.put _ (some 53) _ = _
                simp only [Act.put, qa, qb, qc, i64_w, i32_w]
                rfl
               refine pure_ (i := 28) (N := some 54) (v := ?_) (a' := ?_) #[o,o,o,o,o,o,o,o,o,o,o,o,o,o,o,o,o,o,o,o,o,o,o,o,o,o,o,o,o,z,z,z,z,z,z,z,z,z,z,z,z,z,z,z,z,z,z,z,z,z] rfl rfl (any_of HT_.out (by kernel_rfl)) (fun _ _ _ h => h) (Or.inl ⟨by rfl, ?_⟩) ?_ ?_
               rotate_left
               ·intro w'
                go_simp
                with_reducible rfl
               rotate_left
               ·simp only [Act.put, qa, qb, qc, i64_w, i32_w]
                rfl
               refine pure_ (i := 29) (N := some 55) (v := ?_) (a' := ?_) #[o,o,o,o,o,o,o,o,o,o,o,o,o,o,o,o,o,o,o,o,o,o,o,o,o,o,o,o,o,o,z,z,z,z,z,z,z,z,z,z,z,z,z,z,z,z,z,z,z,z] rfl rfl (any_of HT_.out (by kernel_rfl)) (fun _ _ _ h => h) (Or.inl ⟨by rfl, ?_⟩) ?_ ?_
               rotate_left
               ·intro w'
                go_simp
                with_reducible rfl
               rotate_left
               ·simp only [Act.put, qa, qb, qc, i64_w, i32_w]
                rfl
               refine pure_ (i := 30) (N := some 56) (v := ?_) (a' := ?_) #[o,o,o,o,o,o,o,o,o,o,o,o,o,o,o,o,o,o,o,o,o,o,o,o,o,o,o,o,o,o,o,z,z,z,z,z,z,z,z,z,z,z,z,z,z,z,z,z,z,z] rfl rfl (any_of HT_.out (by kernel_rfl)) (fun _ _ _ h => h) (Or.inl ⟨by rfl, ?_⟩) ?_ ?_
               rotate_left
               ·intro w'
                go_simp
                with_reducible rfl
               rotate_left
               ·simp only [Act.put, qa, qb, qc, i64_w, i32_w]
                rfl
               refine pure_ (i := 31) (N := some 57) (v := ?_) (a' := ?_) #[o,o,o,o,o,o,o,o,o,o,o,o,o,o,o,o,o,o,o,o,o,o,o,o,o,o,o,o,o,o,o,o,z,z,z,z,z,z,z,z,z,z,z,z,z,z,z,z,z,z] rfl rfl (any_of HT_.out (by kernel_rfl)) (fun _ _ _ h => h) (Or.inl ⟨by rfl, ?_⟩) ?_ ?_
               rotate_left
               ·intro w'
                go_simp
                with_reducible rfl
               rotate_left
               ·simp only [Act.put, qa, qb, qc, i64_w, i32_w]
                rfl
               refine pure_ (i := 32) (N := some 58) (v := ?_) (a' := ?_) #[o,o,o,o,o,o,o,o,o,o,o,o,o,o,o,o,o,o,o,o,o,o,o,o,o,o,o,o,o,o,o,o,o,z,z,z,z,z,z,z,z,z,z,z,z,z,z,z,z,z] rfl rfl (any_of HT_.out (by kernel_rfl)) (fun _ _ _ h => h) (Or.inl ⟨by rfl, ?_⟩) ?_ ?_
               rotate_left
               ·intro w'
                go_simp
                with_reducible rfl
               rotate_left
               ·simp only [Act.put, qa, qb, qc, i64_w, i32_w]
                rfl
               refine pure_ (i := 33) (N := some 59) (v := ?_) (a' := ?_) #[o,o,o,o,o,o,o,o,o,o,o,o,o,o,o,o,o,o,o,o,o,o,o,o,o,o,o,o,o,o,o,o,o,o,z,z,z,z,z,z,z,z,z,z,z,z,z,z,z,z] rfl rfl (any_of HT_.out (by kernel_rfl)) (fun _ _ _ h => h) (Or.inl ⟨by rfl, ?_⟩) ?_ ?_
               rotate_left
               ·intro w'
                go_simp
                with_reducible rfl
               rotate_left
               ·simp only [Act.put, qa, qb, qc, i64_w, i32_w]
                rfl
               refine take_ (i := 34) (N := some 60) (v := ?_) (a' := ?_) #[o,o,o,o,o,o,o,o,o,o,o,o,o,o,o,o,o,o,o,o,o,o,o,o,o,o,o,o,o,o,o,o,o,o,o,z,z,z,z,z,z,z,z,z,z,z,z,z,z,z] rfl rfl (take_ofW HT_.out HW_.out (by kernel_rfl)) (fun _ _ _ h => h) (Or.inl ⟨by rfl, ?_⟩) hHeld ?_ ?_
               rotate_left
               ·rintro w' ⟨s0, s1, s2, s3, s4, s5, s6, s7, s8, s9, s10, s11, s12, s13, s14, s15, s16, s17, s18, s19, s20, s21, s22, s23, s24, s25, s26, s27, s28, s29, s30, s31, s32, s33, s34, s35, s36, s37, s38, s39, s40, s41, s42, s43, s44, s45, s46, s47, s48, s49, s50, s51, s52, s53, s54, s55, s56, s57, s58, s59, s60, s61, s62, s63⟩
                go_simp
                with_reducible rfl
               rotate_left
               ·simp only [Act.put, qa, qb, qc, i64_w, i32_w]
                rfl
               refine pure_ (i := 35) (N := some 61) (v := ?_) (a' := ?_) #[o,o,o,o,o,o,o,o,o,o,o,o,o,o,o,o,o,o,o,o,o,o,o,o,o,o,o,o,o,o,o,o,o,o,o,o,z,z,z,z,z,z,z,z,z,z,z,z,z,z] rfl rfl (any_of HT_.out (by kernel_rfl)) (fun _ _ _ h => h) (Or.inl ⟨by rfl, ?_⟩) ?_ ?_
               rotate_left
               ·intro w'
                go_simp
                with_reducible rfl
               rotate_left
               ·simp only [Act.put, qa, qb, qc, i64_w, i32_w]
                rfl
               refine pure_ (i := 36) (N := some 62) (v := ?_) (a' := ?_) #[o,o,o,o,o,o,o,o,o,o,o,o,o,o,o,o,o,o,o,o,o,o,o,o,o,o,o,o,o,o,o,o,o,o,o,o,o,z,z,z,z,z,z,z,z,z,z,z,z,z] rfl rfl (any_of HT_.out (by kernel_rfl)) (fun _ _ _ h => h) (Or.inl ⟨by rfl, ?_⟩) ?_ ?_
               rotate_left
               ·intro w'
                go_simp
                with_reducible rfl
               rotate_left
               ·simp only [Act.put, qa, qb, qc, i64_w, i32_w]
                rfl
               refine pure_ (i := 37) (N := some 63) (v := ?_) (a' := ?_) #[o,o,o,o,o,o,o,o,o,o,o,o,o,o,o,o,o,o,o,o,o,o,o,o,o,o,o,o,o,o,o,o,o,o,o,o,o,o,z,z,z,z,z,z,z,z,z,z,z,z] rfl rfl (any_of HT_.out (by kernel_rfl)) (fun _ _ _ h => h) (Or.inl ⟨by rfl, ?_⟩) ?_ ?_
               rotate_left
               ·intro w'
                go_simp
                with_reducible rfl
               rotate_left
               ·simp only [Act.put, qa, qb, qc, i64_w, i32_w]
                rfl
               refine pure_ (i := 38) (N := some 64) (v := ?_) (a' := ?_) #[o,o,o,o,o,o,o,o,o,o,o,o,o,o,o,o,o,o,o,o,o,o,o,o,o,o,o,o,o,o,o,o,o,o,o,o,o,o,o,z,z,z,z,z,z,z,z,z,z,z] rfl rfl (any_of HT_.out (by kernel_rfl)) (fun _ _ _ h => h) (Or.inl ⟨by rfl, ?_⟩) ?_ ?_
               rotate_left
               ·intro w'
                go_simp
                with_reducible rfl
               rotate_left
               ·simp only [Act.put, qa, qb, qc, i64_w, i32_w]
                rfl
               refine pure_ (i := 39) (N := some 65) (v := ?_) (a' := ?_) #[o,o,o,o,o,o,o,o,o,o,o,o,o,o,o,o,o,o,o,o,o,o,o,o,o,o,o,o,o,o,o,o,o,o,o,o,o,o,o,o,z,z,z,z,z,z,z,z,z,z] rfl rfl (any_of HT_.out (by kernel_rfl)) (fun _ _ _ h => h) (Or.inl ⟨by rfl, ?_⟩) ?_ ?_
               rotate_left
               ·intro w'
                go_simp
                with_reducible rfl
               rotate_left
               ·simp only [Act.put, qa, qb, qc, i64_w, i32_w]
                rfl
               refine pure_ (i := 40) (N := some 66) (v := ?_) (a' := ?_) #[o,o,o,o,o,o,o,o,o,o,o,o,o,o,o,o,o,o,o,o,o,o,o,o,o,o,o,o,o,o,o,o,o,o,o,o,o,o,o,o,o,z,z,z,z,z,z,z,z,z] rfl rfl (any_of HT_.out (by kernel_rfl)) (fun _ _ _ h => h) (Or.inl ⟨by rfl, ?_⟩) ?_ ?_
               rotate_left
               ·intro w'
                go_simp
                with_reducible rfl
               rotate_left
               ·simp only [Act.put, qa, qb, qc, i64_w, i32_w]
                rfl
               refine pure_ (i := 42) (N := some 68) (v := ?_) (a' := ?_) #[o,o,o,o,o,o,o,o,o,o,o,o,o,o,o,o,o,o,o,o,o,o,o,o,o,o,o,o,o,o,o,o,o,o,o,o,o,o,o,o,o,z,o,z,z,z,z,z,z,z] rfl rfl (any_of HT_.out (by kernel_rfl)) (fun _ _ _ h => h) (Or.inl ⟨by rfl, ?_⟩) ?_ ?_
               rotate_left
               ·intro w'
                go_simp
                with_reducible rfl
               rotate_left
               ·simp only [Act.put, qa, qb, qc, i64_w, i32_w]
                rfl
               refine pure_ (i := 43) (N := some 69) (v := ?_) (a' := ?_) #[o,o,o,o,o,o,o,o,o,o,o,o,o,o,o,o,o,o,o,o,o,o,o,o,o,o,o,o,o,o,o,o,o,o,o,o,o,o,o,o,o,z,o,o,z,z,z,z,z,z] rfl rfl (any_of HT_.out (by kernel_rfl)) (fun _ _ _ h => h) (Or.inl ⟨by rfl, ?_⟩) ?_ ?_
               rotate_left
               ·intro w'
                go_simp
                with_reducible rfl
               rotate_left
               ·simp only [Act.put, qa, qb, qc, i64_w, i32_w]
                rfl
               refine pure_ (i := 44) (N := some 70) (v := ?_) (a' := ?_) #[o,o,o,o,o,o,o,o,o,o,o,o,o,o,o,o,o,o,o,o,o,o,o,o,o,o,o,o,o,o,o,o,o,o,o,o,o,o,o,o,o,z,o,o,o,z,z,z,z,z] rfl rfl (any_of HT_.out (by kernel_rfl)) (fun _ _ _ h => h) (Or.inl ⟨by rfl, ?_⟩) ?_ ?_
               rotate_left
               ·intro w'
                go_simp
                with_reducible rfl
               rotate_left
               ·simp only [Act.put, qa, qb, qc, i64_w, i32_w]
                rfl
               refine pure_ (i := 45) (N := some 71) (v := ?_) (a' := ?_) #[o,o,o,o,o,o,o,o,o,o,o,o,o,o,o,o,o,o,o,o,o,o,o,o,o,o,o,o,o,o,o,o,o,o,o,o,o,o,o,o,o,z,o,o,o,o,z,z,z,z] rfl rfl (any_of HT_.out (by kernel_rfl)) (fun _ _ _ h => h) (Or.inl ⟨by rfl, ?_⟩) ?_ ?_
               rotate_left
               ·intro w'
                go_simp
                with_reducible rfl
               rotate_left
               ·simp only [Act.put, qa, qb, qc, i64_w, i32_w]
                rfl
               refine take_ (i := 41) (N := some 67) (v := ?_) (a' := ?_) #[o,o,o,o,o,o,o,o,o,o,o,o,o,o,o,o,o,o,o,o,o,o,o,o,o,o,o,o,o,o,o,o,o,o,o,o,o,o,o,o,o,o,o,o,o,o,z,z,z,z] rfl rfl (take_ofW HT_.out HW_.out (by kernel_rfl)) (fun _ _ _ h => h) (Or.inl ⟨by rfl, ?_⟩) hHeld ?_ ?_
               rotate_left
               ·rintro w' ⟨s0, s1, s2, s3, s4, s5, s6, s7, s8, s9, s10, s11, s12, s13, s14, s15, s16, s17, s18, s19, s20, s21, s22, s23, s24, s25, s26, s27, s28, s29, s30, s31, s32, s33, s34, s35, s36, s37, s38, s39, s40, s41, s42, s43, s44, s45, s46, s47, s48, s49, s50, s51, s52, s53, s54, s55, s56, s57, s58, s59, s60, s61, s62, s63⟩
                go_simp
                with_reducible rfl
               rotate_left
               ·simp only [Act.put, qa, qb, qc, i64_w, i32_w]
                rfl
               refine take_ (i := 46) (N := some 72) (v := ?_) (a' := ?_) #[o,o,o,o,o,o,o,o,o,o,o,o,o,o,o,o,o,o,o,o,o,o,o,o,o,o,o,o,o,o,o,o,o,o,o,o,o,o,o,o,o,o,o,o,o,o,o,z,z,z] rfl rfl (take_ofW HT_.out HW_.out (by kernel_rfl)) (fun _ _ _ h => h) (Or.inl ⟨by rfl, ?_⟩) hHeld ?_ ?_
               rotate_left
               ·rintro w' ⟨s0, s1, s2, s3, s4, s5, s6, s7, s8, s9, s10, s11, s12, s13, s14, s15, s16, s17, s18, s19, s20, s21, s22, s23, s24, s25, s26, s27, s28, s29, s30, s31, s32, s33, s34, s35, s36, s37, s38, s39, s40, s41, s42, s43, s44, s45, s46, s47, s48, s49, s50, s51, s52, s53, s54, s55, s56, s57, s58, s59, s60, s61, s62, s63⟩
                go_simp
                with_reducible rfl
               rotate_left
               ·simp only [Act.put, qa, qb, qc, i64_w, i32_w]
                rfl
               refine pure_ (i := 47) (N := some 73) (v := ?_) (a' := ?_) #[o,o,o,o,o,o,o,o,o,o,o,o,o,o,o,o,o,o,o,o,o,o,o,o,o,o,o,o,o,o,o,o,o,o,o,o,o,o,o,o,o,o,o,o,o,o,o,o,z,z] rfl rfl (any_of HT_.out (by kernel_rfl)) (fun _ _ _ h => h) (Or.inl ⟨by rfl, ?_⟩) ?_ ?_
               rotate_left
               ·intro w'
                go_simp
                with_reducible rfl
               rotate_left
               ·simp only [Act.put, qa, qb, qc, i64_w, i32_w]
                rfl
               refine pure_ (i := 48) (N := some 74) (v := ?_) (a' := ?_) #[o,o,o,o,o,o,o,o,o,o,o,o,o,o,o,o,o,o,o,o,o,o,o,o,o,o,o,o,o,o,o,o,o,o,o,o,o,o,o,o,o,o,o,o,o,o,o,o,o,z] rfl rfl (any_of HT_.out (by kernel_rfl)) (fun _ _ _ h => h) (Or.inl ⟨by rfl, ?_⟩) ?_ ?_
               rotate_left
               ·intro w'
                go_simp
                with_reducible rfl
               rotate_left
               ·simp only [Act.put, qa, qb, qc, i64_w, i32_w]
                rfl
               refine pure_ (i := 49) (N := some 75) (v := ?_) (a' := ?_) #[o,o,o,o,o,o,o,o,o,o,o,o,o,o,o,o,o,o,o,o,o,o,o,o,o,o,o,o,o,o,o,o,o,o,o,o,o,o,o,o,o,o,o,o,o,o,o,o,o,o] rfl rfl (any_of HT_.out (by kernel_rfl)) (fun _ _ _ h => h) (Or.inl ⟨by rfl, ?_⟩) ?_ ?_
               rotate_left
               ·intro w'
                go_simp
                with_reducible rfl
               rotate_left
               ·simp only [Act.put, qa, qb, qc, i64_w, i32_w]
                rfl
               refine done_ (done_of HT_.out (by kernel_rfl)) ?_
               try go_wp2
               go_ret
               exact ⟨by first | rfl | (simp [errW_none, errW_some] <;> rfl) | (simp [*, errW_none, errW_some] <;> rfl), sB HB.out⟩
              ·rw [if_neg c26] at H
               have c26b0 : (((rd_T46 l0 x5_2).f3) == ((rd_T46 l0 a1).f3)) = false := beq_eq_false_iff_ne.mpr c26
               have c26b1 : (((rd_T46 l0 x5_2).f3) != ((rd_T46 l0 a1).f3)) = true := bne_iff_ne.mpr c26
               have H' := Aside0.mk H
               clear H
               try go_wp2
               replace HB := am (below_drew1 HB.out)
               have p123 : 0 ≤ (x5_2 : Int) := of_decide_eq_true (by first | (with_reducible assumption) | assumption)
               have q123 : x5_2 < (l0.length : Int) := of_decide_eq_true (by first | (with_reducible assumption) | assumption)
               obtain ⟨ad123, e123, hx123_0, hx123_1, hx123_2, hx123_3, hx123_4, hx123_5, hx123_6, hx123_7⟩ := at_T46 HR0.out x5_2 p123 q123
               have hw123_7 := hx123_7
               have hw123_6 := hx123_6
               have hw123_5 := hx123_5
               have hw123_4 := hx123_4
               have hw123_3 := hx123_3
               have hw123_2 := hx123_2
               have hw123_1 := hx123_1
               have hw123_0 := hx123_0
               cases e123
               replace hx123_0 := hc_ HB hx123_0
               replace hx123_1 := hc_ HB hx123_1
               replace hx123_2 := hc_ HB hx123_2
               replace hx123_3 := hc_ HB hx123_3
               replace hx123_4 := hc_ HB hx123_4
               replace hx123_5 := hc_ HB hx123_5
               replace hx123_6 := hc_ HB hx123_6
               replace hx123_7 := hc_ HB hx123_7
               replace p123 := eq_true p123
               replace q123 := eq_true q123
               have p125 : 0 ≤ (x5_2 : Int) := of_decide_eq_true (by first | (with_reducible assumption) | assumption)
               have q125 : x5_2 < (l0.length : Int) := of_decide_eq_true (by first | (with_reducible assumption) | assumption)
               obtain ⟨ad125, e125, hx125_0, hx125_1, hx125_2, hx125_3, hx125_4, hx125_5, hx125_6, hx125_7⟩ := at_T46 HR0.out x5_2 p125 q125
               have hw125_7 := hx125_7
               have hw125_6 := hx125_6
               have hw125_5 := hx125_5
               have hw125_4 := hx125_4
               have hw125_3 := hx125_3
               have hw125_2 := hx125_2
               have hw125_1 := hx125_1
               have hw125_0 := hx125_0
               obtain rfl : ad123 = ad125 := (by injection e125)
               replace hx125_0 := hc_ HB hx125_0
               replace hx125_1 := hc_ HB hx125_1
               replace hx125_2 := hc_ HB hx125_2
               replace hx125_3 := hc_ HB hx125_3
               replace hx125_4 := hc_ HB hx125_4
               replace hx125_5 := hc_ HB hx125_5
               replace hx125_6 := hc_ HB hx125_6
               replace hx125_7 := hc_ HB hx125_7
               replace p125 := eq_true p125
               replace q125 := eq_true q125
               have p126 : 0 ≤ (a1 : Int) := of_decide_eq_true (by first | (with_reducible assumption) | assumption)
               have q126 : a1 < (l0.length : Int) := of_decide_eq_true (by first | (with_reducible assumption) | assumption)
               obtain ⟨ad126, e126, hx126_0, hx126_1, hx126_2, hx126_3, hx126_4, hx126_5, hx126_6, hx126_7⟩ := at_T46 HR0.out a1 p126 q126
               have hw126_7 := hx126_7
               have hw126_6 := hx126_6
               have hw126_5 := hx126_5
               have hw126_4 := hx126_4
               have hw126_3 := hx126_3
               have hw126_2 := hx126_2
               have hw126_1 := hx126_1
               have hw126_0 := hx126_0
               obtain rfl : ad123 = ad126 := (by injection e126)
               replace hx126_0 := hc_ HB hx126_0
               replace hx126_1 := hc_ HB hx126_1
               replace hx126_2 := hc_ HB hx126_2
               replace hx126_3 := hc_ HB hx126_3
               replace hx126_4 := hc_ HB hx126_4
               replace hx126_5 := hc_ HB hx126_5
               replace hx126_6 := hc_ HB hx126_6
               replace hx126_7 := hc_ HB hx126_7
               replace p126 := eq_true p126
               replace q126 := eq_true q126
               have p128 : 0 ≤ (a1 : Int) := of_decide_eq_true (by first | (with_reducible assumption) | assumption)
               have q128 : a1 < (l0.length : Int) := of_decide_eq_true (by first | (with_reducible assumption) | assumption)
               obtain ⟨ad128, e128, hx128_0, hx128_1, hx128_2, hx128_3, hx128_4, hx128_5, hx128_6, hx128_7⟩ := at_T46 HR0.out a1 p128 q128
               have hw128_7 := hx128_7
               have hw128_6 := hx128_6
               have hw128_5 := hx128_5
               have hw128_4 := hx128_4
               have hw128_3 := hx128_3
               have hw128_2 := hx128_2
               have hw128_1 := hx128_1
               have hw128_0 := hx128_0
               obtain rfl : ad123 = ad128 := (by injection e128)
               replace hx128_0 := hc_ HB hx128_0
               replace hx128_1 := hc_ HB hx128_1
               replace hx128_2 := hc_ HB hx128_2
               replace hx128_3 := hc_ HB hx128_3
               replace hx128_4 := hc_ HB hx128_4
               replace hx128_5 := hc_ HB hx128_5
               replace hx128_6 := hc_ HB hx128_6
               replace hx128_7 := hc_ HB hx128_7
               replace p128 := eq_true p128
               replace q128 := eq_true q128
               have p129 : 0 ≤ (x5_2 : Int) := of_decide_eq_true (by first | (with_reducible assumption) | assumption)
               have q129 : x5_2 < (l0.length : Int) := of_decide_eq_true (by first | (with_reducible assumption) | assumption)
               obtain ⟨ad129, e129, hx129_0, hx129_1, hx129_2, hx129_3, hx129_4, hx129_5, hx129_6, hx129_7⟩ := at_T46 HR0.out x5_2 p129 q129
               have hw129_7 := hx129_7
               have hw129_6 := hx129_6
               have hw129_5 := hx129_5
               have hw129_4 := hx129_4
               have hw129_3 := hx129_3
               have hw129_2 := hx129_2
               have hw129_1 := hx129_1
               have hw129_0 := hx129_0
               obtain rfl : ad123 = ad129 := (by injection e129)
               replace hx129_0 := hc_ HB hx129_0
               replace hx129_1 := hc_ HB hx129_1
               replace hx129_2 := hc_ HB hx129_2
               replace hx129_3 := hc_ HB hx129_3
               replace hx129_4 := hc_ HB hx129_4
               replace hx129_5 := hc_ HB hx129_5
               replace hx129_6 := hc_ HB hx129_6
               replace hx129_7 := hc_ HB hx129_7
               replace p129 := eq_true p129
               replace q129 := eq_true q129
               have p131 : 0 ≤ (x5_2 : Int) := of_decide_eq_true (by first | (with_reducible assumption) | assumption)
               have q131 : x5_2 < (l0.length : Int) := of_decide_eq_true (by first | (with_reducible assumption) | assumption)
               obtain ⟨ad131, e131, hx131_0, hx131_1, hx131_2, hx131_3, hx131_4, hx131_5, hx131_6, hx131_7⟩ := at_T46 HR0.out x5_2 p131 q131
               have hw131_7 := hx131_7
               have hw131_6 := hx131_6
               have hw131_5 := hx131_5
               have hw131_4 := hx131_4
               have hw131_3 := hx131_3
               have hw131_2 := hx131_2
               have hw131_1 := hx131_1
               have hw131_0 := hx131_0
               obtain rfl : ad123 = ad131 := (by injection e131)
               replace hx131_0 := hc_ HB hx131_0
               replace hx131_1 := hc_ HB hx131_1
               replace hx131_2 := hc_ HB hx131_2
               replace hx131_3 := hc_ HB hx131_3
               replace hx131_4 := hc_ HB hx131_4
               replace hx131_5 := hc_ HB hx131_5
               replace hx131_6 := hc_ HB hx131_6
               replace hx131_7 := hc_ HB hx131_7
               replace p131 := eq_true p131
               replace q131 := eq_true q131
               have p132 : 0 ≤ (x5_2 : Int) := of_decide_eq_true (by first | (with_reducible assumption) | assumption)
               have q132 : x5_2 < (l0.length : Int) := of_decide_eq_true (by first | (with_reducible assumption) | assumption)
               obtain ⟨ad132, e132, hx132_0, hx132_1, hx132_2, hx132_3, hx132_4, hx132_5, hx132_6, hx132_7⟩ := at_T46 HR0.out x5_2 p132 q132
               have hw132_7 := hx132_7
               have hw132_6 := hx132_6
               have hw132_5 := hx132_5
               have hw132_4 := hx132_4
               have hw132_3 := hx132_3
               have hw132_2 := hx132_2
               have hw132_1 := hx132_1
               have hw132_0 := hx132_0
               obtain rfl : ad123 = ad132 := (by injection e132)
               replace hx132_0 := hc_ HB hx132_0
               replace hx132_1 := hc_ HB hx132_1
               replace hx132_2 := hc_ HB hx132_2
               replace hx132_3 := hc_ HB hx132_3
               replace hx132_4 := hc_ HB hx132_4
               replace hx132_5 := hc_ HB hx132_5
               replace hx132_6 := hc_ HB hx132_6
               replace hx132_7 := hc_ HB hx132_7
               replace p132 := eq_true p132
               replace q132 := eq_true q132
               have p133 : 0 ≤ (a1 : Int) := of_decide_eq_true (by first | (with_reducible assumption) | assumption)
               have q133 : a1 < (l0.length : Int) := of_decide_eq_true (by first | (with_reducible assumption) | assumption)
               obtain ⟨ad133, e133, hx133_0, hx133_1, hx133_2, hx133_3, hx133_4, hx133_5, hx133_6, hx133_7⟩ := at_T46 HR0.out a1 p133 q133
               have hw133_7 := hx133_7
               have hw133_6 := hx133_6
               have hw133_5 := hx133_5
               have hw133_4 := hx133_4
               have hw133_3 := hx133_3
               have hw133_2 := hx133_2
               have hw133_1 := hx133_1
               have hw133_0 := hx133_0
               obtain rfl : ad123 = ad133 := (by injection e133)
               replace hx133_0 := hc_ HB hx133_0
               replace hx133_1 := hc_ HB hx133_1
               replace hx133_2 := hc_ HB hx133_2
               replace hx133_3 := hc_ HB hx133_3
               replace hx133_4 := hc_ HB hx133_4
               replace hx133_5 := hc_ HB hx133_5
               replace hx133_6 := hc_ HB hx133_6
               replace hx133_7 := hc_ HB hx133_7
               replace p133 := eq_true p133
               replace q133 := eq_true q133
               refine start_ (n := 50) (S := fun w' => w'.cell? (ad123.add ((x5_2).toNat * 8)) = some (.int .i64 ((rd_T46 l0 x5_2).f0)) ∧ w'.cell? ⟨(ad123.add ((x5_2).toNat * 8)).block, (ad123.add ((x5_2).toNat * 8)).off + 1, none⟩ = some (.int .i64 ((rd_T46 l0 x5_2).f1)) ∧ w'.cell? ⟨(ad123.add ((x5_2).toNat * 8)).block, (ad123.add ((x5_2).toNat * 8)).off + 2, none⟩ = some (.int .i64 ((rd_T46 l0 x5_2).f2.f0)) ∧ w'.cell? ⟨(ad123.add ((x5_2).toNat * 8)).block, (ad123.add ((x5_2).toNat * 8)).off + 3, none⟩ = some (.int .i64 ((rd_T46 l0 x5_2).f2.f1)) ∧ w'.cell? ⟨(ad123.add ((x5_2).toNat * 8)).block, (ad123.add ((x5_2).toNat * 8)).off + 4, none⟩ = some (.int .i64 ((rd_T46 l0 x5_2).f3)) ∧ w'.cell? ⟨(ad123.add ((x5_2).toNat * 8)).block, (ad123.add ((x5_2).toNat * 8)).off + 5, none⟩ = some (.int .i64 ((rd_T46 l0 x5_2).f4)) ∧ w'.cell? ⟨(ad123.add ((x5_2).toNat * 8)).block, (ad123.add ((x5_2).toNat * 8)).off + 6, none⟩ = some (.int .i64 ((rd_T46 l0 x5_2).f5.f0)) ∧ w'.cell? ⟨(ad123.add ((x5_2).toNat * 8)).block, (ad123.add ((x5_2).toNat * 8)).off + 7, none⟩ = some (.int .i64 ((rd_T46 l0 x5_2).f5.f1)) ∧ w'.cell? (ad123.add ((x5_2).toNat * 8)) = some (.int .i64 ((rd_T46 l0 x5_2).f0)) ∧ w'.cell? ⟨(ad123.add ((x5_2).toNat * 8)).block, (ad123.add ((x5_2).toNat * 8)).off + 1, none⟩ = some (.int .i64 ((rd_T46 l0 x5_2).f1)) ∧ w'.cell? ⟨(ad123.add ((x5_2).toNat * 8)).block, (ad123.add ((x5_2).toNat * 8)).off + 2, none⟩ = some (.int .i64 ((rd_T46 l0 x5_2).f2.f0)) ∧ w'.cell? ⟨(ad123.add ((x5_2).toNat * 8)).block, (ad123.add ((x5_2).toNat * 8)).off + 3, none⟩ = some (.int .i64 ((rd_T46 l0 x5_2).f2.f1)) ∧ w'.cell? ⟨(ad123.add ((x5_2).toNat * 8)).block, (ad123.add ((x5_2).toNat * 8)).off + 4, none⟩ = some (.int .i64 ((rd_T46 l0 x5_2).f3)) ∧ w'.cell? ⟨(ad123.add ((x5_2).toNat * 8)).block, (ad123.add ((x5_2).toNat * 8)).off + 5, none⟩ = some (.int .i64 ((rd_T46 l0 x5_2).f4)) ∧ w'.cell? ⟨(ad123.add ((x5_2).toNat * 8)).block, (ad123.add ((x5_2).toNat * 8)).off + 6, none⟩ = some (.int .i64 ((rd_T46 l0 x5_2).f5.f0)) ∧ w'.cell? ⟨(ad123.add ((x5_2).toNat * 8)).block, (ad123.add ((x5_2).toNat * 8)).off + 7, none⟩ = some (.int .i64 ((rd_T46 l0 x5_2).f5.f1)) ∧ w'.cell? (ad123.add ((a1).toNat * 8)) = some (.int .i64 ((rd_T46 l0 a1).f0)) ∧ w'.cell? ⟨(ad123.add ((a1).toNat * 8)).block, (ad123.add ((a1).toNat * 8)).off + 1, none⟩ = some (.int .i64 ((rd_T46 l0 a1).f1)) ∧ w'.cell? ⟨(ad123.add ((a1).toNat * 8)).block, (ad123.add ((a1).toNat * 8)).off + 2, none⟩ = some (.int .i64 ((rd_T46 l0 a1).f2.f0)) ∧ w'.cell? ⟨(ad123.add ((a1).toNat * 8)).block, (ad123.add ((a1).toNat * 8)).off + 3, none⟩ = some (.int .i64 ((rd_T46 l0 a1).f2.f1)) ∧ w'.cell? ⟨(ad123.add ((a1).toNat * 8)).block, (ad123.add ((a1).toNat * 8)).off + 4, none⟩ = some (.int .i64 ((rd_T46 l0 a1).f3)) ∧ w'.cell? ⟨(ad123.add ((a1).toNat * 8)).block, (ad123.add ((a1).toNat * 8)).off + 5, none⟩ = some (.int .i64 ((rd_T46 l0 a1).f4)) ∧ w'.cell? ⟨(ad123.add ((a1).toNat * 8)).block, (ad123.add ((a1).toNat * 8)).off + 6, none⟩ = some (.int .i64 ((rd_T46 l0 a1).f5.f0)) ∧ w'.cell? ⟨(ad123.add ((a1).toNat * 8)).block, (ad123.add ((a1).toNat * 8)).off + 7, none⟩ = some (.int .i64 ((rd_T46 l0 a1).f5.f1)) ∧ w'.cell? (ad123.add ((a1).toNat * 8)) = some (.int .i64 ((rd_T46 l0 a1).f0)) ∧ w'.cell? ⟨(ad123.add ((a1).toNat * 8)).block, (ad123.add ((a1).toNat * 8)).off + 1, none⟩ = some (.int .i64 ((rd_T46 l0 a1).f1)) ∧ w'.cell? ⟨(ad123.add ((a1).toNat * 8)).block, (ad123.add ((a1).toNat * 8)).off + 2, none⟩ = some (.int .i64 ((rd_T46 l0 a1).f2.f0)) ∧ w'.cell? ⟨(ad123.add ((a1).toNat * 8)).block, (ad123.add ((a1).toNat * 8)).off + 3, none⟩ = some (.int .i64 ((rd_T46 l0 a1).f2.f1)) ∧ w'.cell? ⟨(ad123.add ((a1).toNat * 8)).block, (ad123.add ((a1).toNat * 8)).off + 4, none⟩ = some (.int .i64 ((rd_T46 l0 a1).f3)) ∧ w'.cell? ⟨(ad123.add ((a1).toNat * 8)).block, (ad123.add ((a1).toNat * 8)).off + 5, none⟩ = some (.int .i64 ((rd_T46 l0 a1).f4)) ∧ w'.cell? ⟨(ad123.add ((a1).toNat * 8)).block, (ad123.add ((a1).toNat * 8)).off + 6, none⟩ = some (.int .i64 ((rd_T46 l0 a1).f5.f0)) ∧ w'.cell? ⟨(ad123.add ((a1).toNat * 8)).block, (ad123.add ((a1).toNat * 8)).off + 7, none⟩ = some (.int .i64 ((rd_T46 l0 a1).f5.f1)) ∧ w'.cell? (ad123.add ((x5_2).toNat * 8)) = some (.int .i64 ((rd_T46 l0 x5_2).f0)) ∧ w'.cell? ⟨(ad123.add ((x5_2).toNat * 8)).block, (ad123.add ((x5_2).toNat * 8)).off + 1, none⟩ = some (.int .i64 ((rd_T46 l0 x5_2).f1)) ∧ w'.cell? ⟨(ad123.add ((x5_2).toNat * 8)).block, (ad123.add ((x5_2).toNat * 8)).off + 2, none⟩ = some (.int .i64 ((rd_T46 l0 x5_2).f2.f0)) ∧ w'.cell? ⟨(ad123.add ((x5_2).toNat * 8)).block, (ad123.add ((x5_2).toNat * 8)).off + 3, none⟩ = some (.int .i64 ((rd_T46 l0 x5_2).f2.f1)) ∧ w'.cell? ⟨(ad123.add ((x5_2).toNat * 8)).block, (ad123.add ((x5_2).toNat * 8)).off + 4, none⟩ = some (.int .i64 ((rd_T46 l0 x5_2).f3)) ∧ w'.cell? ⟨(ad123.add ((x5_2).toNat * 8)).block, (ad123.add ((x5_2).toNat * 8)).off + 5, none⟩ = some (.int .i64 ((rd_T46 l0 x5_2).f4)) ∧ w'.cell? ⟨(ad123.add ((x5_2).toNat * 8)).block, (ad123.add ((x5_2).toNat * 8)).off + 6, none⟩ = some (.int .i64 ((rd_T46 l0 x5_2).f5.f0)) ∧ w'.cell? ⟨(ad123.add ((x5_2).toNat * 8)).block, (ad123.add ((x5_2).toNat * 8)).off + 7, none⟩ = some (.int .i64 ((rd_T46 l0 x5_2).f5.f1)) ∧ w'.cell? (ad123.add ((x5_2).toNat * 8)) = some (.int .i64 ((rd_T46 l0 x5_2).f0)) ∧ w'.cell? ⟨(ad123.add ((x5_2).toNat * 8)).block, (ad123.add ((x5_2).toNat * 8)).off + 1, none⟩ = some (.int .i64 ((rd_T46 l0 x5_2).f1)) ∧ w'.cell? ⟨(ad123.add ((x5_2).toNat * 8)).block, (ad123.add ((x5_2).toNat * 8)).off + 2, none⟩ = some (.int .i64 ((rd_T46 l0 x5_2).f2.f0)) ∧ w'.cell? ⟨(ad123.add ((x5_2).toNat * 8)).block, (ad123.add ((x5_2).toNat * 8)).off + 3, none⟩ = some (.int .i64 ((rd_T46 l0 x5_2).f2.f1)) ∧ w'.cell? ⟨(ad123.add ((x5_2).toNat * 8)).block, (ad123.add ((x5_2).toNat * 8)).off + 4, none⟩ = some (.int .i64 ((rd_T46 l0 x5_2).f3)) ∧ w'.cell? ⟨(ad123.add ((x5_2).toNat * 8)).block, (ad123.add ((x5_2).toNat * 8)).off + 5, none⟩ = some (.int .i64 ((rd_T46 l0 x5_2).f4)) ∧ w'.cell? ⟨(ad123.add ((x5_2).toNat * 8)).block, (ad123.add ((x5_2).toNat * 8)).off + 6, none⟩ = some (.int .i64 ((rd_T46 l0 x5_2).f5.f0)) ∧ w'.cell? ⟨(ad123.add ((x5_2).toNat * 8)).block, (ad123.add ((x5_2).toNat * 8)).off + 7, none⟩ = some (.int .i64 ((rd_T46 l0 x5_2).f5.f1)) ∧ w'.cell? (ad123.add ((x5_2).toNat * 8)) = some (.int .i64 ((rd_T46 l0 x5_2).f0)) ∧ w'.cell? ⟨(ad123.add ((x5_2).toNat * 8)).block, (ad123.add ((x5_2).toNat * 8)).off + 1, none⟩ = some (.int .i64 ((rd_T46 l0 x5_2).f1)) ∧ w'.cell? ⟨(ad123.add ((x5_2).toNat * 8)).block, (ad123.add ((x5_2).toNat * 8)).off + 2, none⟩ = some (.int .i64 ((rd_T46 l0 x5_2).f2.f0)) ∧ w'.cell? ⟨(ad123.add ((x5_2).toNat * 8)).block, (ad123.add ((x5_2).toNat * 8)).off + 3, none⟩ = some (.int .i64 ((rd_T46 l0 x5_2).f2.f1)) ∧ w'.cell? ⟨(ad123.add ((x5_2).toNat * 8)).block, (ad123.add ((x5_2).toNat * 8)).off + 4, none⟩ = some (.int .i64 ((rd_T46 l0 x5_2).f3)) ∧ w'.cell? ⟨(ad123.add ((x5_2).toNat * 8)).block, (ad123.add ((x5_2).toNat * 8)).off + 5, none⟩ = some (.int .i64 ((rd_T46 l0 x5_2).f4)) ∧ w'.cell? ⟨(ad123.add ((x5_2).toNat * 8)).block, (ad123.add ((x5_2).toNat * 8)).off + 6, none⟩ = some (.int .i64 ((rd_T46 l0 x5_2).f5.f0)) ∧ w'.cell? ⟨(ad123.add ((x5_2).toNat * 8)).block, (ad123.add ((x5_2).toNat * 8)).off + 7, none⟩ = some (.int .i64 ((rd_T46 l0 x5_2).f5.f1)) ∧ w'.cell? (ad123.add ((a1).toNat * 8)) = some (.int .i64 ((rd_T46 l0 a1).f0)) ∧ w'.cell? ⟨(ad123.add ((a1).toNat * 8)).block, (ad123.add ((a1).toNat * 8)).off + 1, none⟩ = some (.int .i64 ((rd_T46 l0 a1).f1)) ∧ w'.cell? ⟨(ad123.add ((a1).toNat * 8)).block, (ad123.add ((a1).toNat * 8)).off + 2, none⟩ = some (.int .i64 ((rd_T46 l0 a1).f2.f0)) ∧ w'.cell? ⟨(ad123.add ((a1).toNat * 8)).block, (ad123.add ((a1).toNat * 8)).off + 3, none⟩ = some (.int .i64 ((rd_T46 l0 a1).f2.f1)) ∧ w'.cell? ⟨(ad123.add ((a1).toNat * 8)).block, (ad123.add ((a1).toNat * 8)).off + 4, none⟩ = some (.int .i64 ((rd_T46 l0 a1).f3)) ∧ w'.cell? ⟨(ad123.add ((a1).toNat * 8)).block, (ad123.add ((a1).toNat * 8)).off + 5, none⟩ = some (.int .i64 ((rd_T46 l0 a1).f4)) ∧ w'.cell? ⟨(ad123.add ((a1).toNat * 8)).block, (ad123.add ((a1).toNat * 8)).off + 6, none⟩ = some (.int .i64 ((rd_T46 l0 a1).f5.f0)) ∧ w'.cell? ⟨(ad123.add ((a1).toNat * 8)).block, (ad123.add ((a1).toNat * 8)).off + 7, none⟩ = some (.int .i64 ((rd_T46 l0 a1).f5.f1))) (ds := []) #[z,z,z,z,z,z,z,z,z,z,z,z,z,z,z,z,z,z,z,z,z,z,z,z,z,z,z,z,z,z,z,z,z,z,z,z,z,z,z,z,z,z,z,z,z,z,z,z,z,z] (by kernel_rfl) rfl rfl ⟨(hc_ HB hw123_0), (hc_ HB hw123_1), (hc_ HB hw123_2), (hc_ HB hw123_3), (hc_ HB hw123_4), (hc_ HB hw123_5), (hc_ HB hw123_6), (hc_ HB hw123_7), (hc_ HB hw125_0), (hc_ HB hw125_1), (hc_ HB hw125_2), (hc_ HB hw125_3), (hc_ HB hw125_4), (hc_ HB hw125_5), (hc_ HB hw125_6), (hc_ HB hw125_7), (hc_ HB hw126_0), (hc_ HB hw126_1), (hc_ HB hw126_2), (hc_ HB hw126_3), (hc_ HB hw126_4), (hc_ HB hw126_5), (hc_ HB hw126_6), (hc_ HB hw126_7), (hc_ HB hw128_0), (hc_ HB hw128_1), (hc_ HB hw128_2), (hc_ HB hw128_3), (hc_ HB hw128_4), (hc_ HB hw128_5), (hc_ HB hw128_6), (hc_ HB hw128_7), (hc_ HB hw129_0), (hc_ HB hw129_1), (hc_ HB hw129_2), (hc_ HB hw129_3), (hc_ HB hw129_4), (hc_ HB hw129_5), (hc_ HB hw129_6), (hc_ HB hw129_7), (hc_ HB hw131_0), (hc_ HB hw131_1), (hc_ HB hw131_2), (hc_ HB hw131_3), (hc_ HB hw131_4), (hc_ HB hw131_5), (hc_ HB hw131_6), (hc_ HB hw131_7), (hc_ HB hw132_0), (hc_ HB hw132_1), (hc_ HB hw132_2), (hc_ HB hw132_3), (hc_ HB hw132_4), (hc_ HB hw132_5), (hc_ HB hw132_6), (hc_ HB hw132_7), (hc_ HB hw133_0), (hc_ HB hw133_1), (hc_ HB hw133_2), (hc_ HB hw133_3), (hc_ HB hw133_4), (hc_ HB hw133_5), (hc_ HB hw133_6), (hc_ HB hw133_7)⟩ (fun hHeld => ?_); refine with_tabW spec_IsShadowed.tab6 spec_IsShadowed.bits6 (fun HT_ HW_ => ?_)
               generalize wr.drew = w31 at HB hx123_0 hx123_1 hx123_2 hx123_3 hx123_4 hx123_5 hx123_6 hx123_7 hx125_0 hx125_1 hx125_2 hx125_3 hx125_4 hx125_5 hx125_6 hx125_7 hx126_0 hx126_1 hx126_2 hx126_3 hx126_4 hx126_5 hx126_6 hx126_7 hx128_0 hx128_1 hx128_2 hx128_3 hx128_4 hx128_5 hx128_6 hx128_7 hx129_0 hx129_1 hx129_2 hx129_3 hx129_4 hx129_5 hx129_6 hx129_7 hx131_0 hx131_1 hx131_2 hx131_3 hx131_4 hx131_5 hx131_6 hx131_7 hx132_0 hx132_1 hx132_2 hx132_3 hx132_4 hx132_5 hx132_6 hx132_7 hx133_0 hx133_1 hx133_2 hx133_3 hx133_4 hx133_5 hx133_6 hx133_7 hHeld ⊢
               refine pure_ (i := 0) (N := some 26) (v := ?_) (a' := ?_) #[o,z,z,z,z,z,z,z,z,z,z,z,z,z,z,z,z,z,z,z,z,z,z,z,z,z,z,z,z,z,z,z,z,z,z,z,z,z,z,z,z,z,z,z,z,z,z,z,z,z] rfl rfl (any_of HT_.out (by kernel_rfl)) (fun _ _ _ h => h) (Or.inl ⟨by rfl, ?_⟩) ?_ ?_
               rotate_left
               ·intro w'
                go_simp
                with_reducible rfl
               rotate_left
               ·simp only [Act.put, qa, qb, qc, i64_w, i32_w]
                rfl
               refine pure_ (i := 1) (N := some 27) (v := ?_) (a' := ?_) #[o,o,z,z,z,z,z,z,z,z,z,z,z,z,z,z,z,z,z,z,z,z,z,z,z,z,z,z,z,z,z,z,z,z,z,z,z,z,z,z,z,z,z,z,z,z,z,z,z,z] rfl rfl (any_of HT_.out (by kernel_rfl)) (fun _ _ _ h => h) (Or.inl ⟨by rfl, ?_⟩) ?_ ?_
               rotate_left
               ·intro w'
                go_simp
                with_reducible rfl
               rotate_left
               ·simp only [Act.put, qa, qb, qc, i64_w, i32_w]
                rfl
               refine pure_ (i := 2) (N := some 28) (v := ?_) (a' := ?_) #[o,o,o,z,z,z,z,z,z,z,z,z,z,z,z,z,z,z,z,z,z,z,z,z,z,z,z,z,z,z,z,z,z,z,z,z,z,z,z,z,z,z,z,z,z,z,z,z,z,z] rfl rfl (any_of HT_.out (by kernel_rfl)) (fun _ _ _ h => h) (Or.inl ⟨by rfl, ?_⟩) ?_ ?_
               rotate_left
               ·intro w'
                go_simp
                with_reducible rfl
               rotate_left
               ·simp only [Act.put, qa, qb, qc, i64_w, i32_w]
                rfl
               refine take_ (i := 3) (N := some 29) (v := ?_) (a' := ?_) #[o,o,o,o,z,z,z,z,z,z,z,z,z,z,z,z,z,z,z,z,z,z,z,z,z,z,z,z,z,z,z,z,z,z,z,z,z,z,z,z,z,z,z,z,z,z,z,z,z,z] rfl rfl (take_ofW HT_.out HW_.out (by kernel_rfl)) (fun _ _ _ h => h) (Or.inl ⟨by rfl, ?_⟩) hHeld ?_ ?_
               rotate_left
               ·rintro w' ⟨s0, s1, s2, s3, s4, s5, s6, s7, s8, s9, s10, s11, s12, s13, s14, s15, s16, s17, s18, s19, s20, s21, s22, s23, s24, s25, s26, s27, s28, s29, s30, s31, s32, s33, s34, s35, s36, s37, s38, s39, s40, s41, s42, s43, s44, s45, s46, s47, s48, s49, s50, s51, s52, s53, s54, s55, s56, s57, s58, s59, s60, s61, s62, s63⟩
                go_simp
                with_reducible rfl
               rotate_left
               ·simp only [Act.put, qa, qb, qc, i64_w, i32_w]
                rfl
               refine one_ (i := 4) (N := some 30) #[o,o,o,o,o,z,z,z,z,z,z,z,z,z,z,z,z,z,z,z,z,z,z,z,z,z,z,z,z,z,z,z,z,z,z,z,z,z,z,z,z,z,z,z,z,z,z,z,z,z] rfl rfl (one_of HT_.out (by kernel_rfl)) (by decide) (fun K hK => ?_)
               refine goes_ Try.func25 (by kernel_rfl) rfl #[.agg #[.int .i64 ((rd_T46 l0 x5_2).f0), .int .i64 ((rd_T46 l0 x5_2).f1), .int .i64 ((rd_T46 l0 x5_2).f2.f0), .int .i64 ((rd_T46 l0 x5_2).f2.f1), .int .i64 ((rd_T46 l0 x5_2).f3), .int .i64 ((rd_T46 l0 x5_2).f4), .int .i64 ((rd_T46 l0 x5_2).f5.f0), .int .i64 ((rd_T46 l0 x5_2).f5.f1)]] (by rfl) rfl rfl (by (try simp only [List.map_toArray, List.map_cons, List.map_nil]); first | done | rfl | (simp only [List.length_drop, List.length_take]; rfl)) ?_
               with_reducible refine (spec_IsRule.calls ((rd_T46 l0 x5_2).f0) ((rd_T46 l0 x5_2).f1) ((rd_T46 l0 x5_2).f2.f0) ((rd_T46 l0 x5_2).f2.f1) ((rd_T46 l0 x5_2).f3) ((rd_T46 l0 x5_2).f4) ((rd_T46 l0 x5_2).f5.f0) ((rd_T46 l0 x5_2).f5.f1) true _ A13.out).mono ?_
               rintro e w32 ⟨rfl, hb⟩
               refine ⟨_, rfl, ?_⟩
               replace HB := am (below_step (sB HB.out) hb)
               (try clear hb)
               (try clear hb2)
               (try clear hk)
               (try clear hi)
               refine hK.out _ _ ⟨(hc_ HB hw123_0), (hc_ HB hw123_1), (hc_ HB hw123_2), (hc_ HB hw123_3), (hc_ HB hw123_4), (hc_ HB hw123_5), (hc_ HB hw123_6), (hc_ HB hw123_7), (hc_ HB hw125_0), (hc_ HB hw125_1), (hc_ HB hw125_2), (hc_ HB hw125_3), (hc_ HB hw125_4), (hc_ HB hw125_5), (hc_ HB hw125_6), (hc_ HB hw125_7), (hc_ HB hw126_0), (hc_ HB hw126_1), (hc_ HB hw126_2), (hc_ HB hw126_3), (hc_ HB hw126_4), (hc_ HB hw126_5), (hc_ HB hw126_6), (hc_ HB hw126_7), (hc_ HB hw128_0), (hc_ HB hw128_1), (hc_ HB hw128_2), (hc_ HB hw128_3), (hc_ HB hw128_4), (hc_ HB hw128_5), (hc_ HB hw128_6), (hc_ HB hw128_7), (hc_ HB hw129_0), (hc_ HB hw129_1), (hc_ HB hw129_2), (hc_ HB hw129_3), (hc_ HB hw129_4), (hc_ HB hw129_5), (hc_ HB hw129_6), (hc_ HB hw129_7), (hc_ HB hw131_0), (hc_ HB hw131_1), (hc_ HB hw131_2), (hc_ HB hw131_3), (hc_ HB hw131_4), (hc_ HB hw131_5), (hc_ HB hw131_6), (hc_ HB hw131_7), (hc_ HB hw132_0), (hc_ HB hw132_1), (hc_ HB hw132_2), (hc_ HB hw132_3), (hc_ HB hw132_4), (hc_ HB hw132_5), (hc_ HB hw132_6), (hc_ HB hw132_7), (hc_ HB hw133_0), (hc_ HB hw133_1), (hc_ HB hw133_2), (hc_ HB hw133_3), (hc_ HB hw133_4), (hc_ HB hw133_5), (hc_ HB hw133_6), (hc_ HB hw133_7)⟩ (fun hHeld => ?_)
               clear hK K
               refine norm_ (a' := ?_) ?_ ?_
               rotate_left
               ·show Act.put _ (some 30) _ = _
                simp only [Act.put, qa, qb, qc, i64_w, i32_w]
                rfl
               refine pure_ (i := 5) (N := some 31) (v := ?_) (a' := ?_) #[o,o,o,o,o,o,z,z,z,z,z,z,z,z,z,z,z,z,z,z,z,z,z,z,z,z,z,z,z,z,z,z,z,z,z,z,z,z,z,z,z,z,z,z,z,z,z,z,z,z] rfl rfl (any_of HT_.out (by kernel_rfl)) (fun _ _ _ h => h) (Or.inl ⟨by rfl, ?_⟩) ?_ ?_
               rotate_left
               ·intro w'
                go_simp
                with_reducible rfl
               rotate_left
               ·simp only [Act.put, qa, qb, qc, i64_w, i32_w]
                rfl
               refine pure_ (i := 6) (N := some 32) (v := ?_) (a' := ?_) #[o,o,o,o,o,o,o,z,z,z,z,z,z,z,z,z,z,z,z,z,z,z,z,z,z,z,z,z,z,z,z,z,z,z,z,z,z,z,z,z,z,z,z,z,z,z,z,z,z,z] rfl rfl (any_of HT_.out (by kernel_rfl)) (fun _ _ _ h => h) (Or.inl ⟨by rfl, ?_⟩) ?_ ?_
               rotate_left
               ·intro w'
                go_simp
                with_reducible rfl
               rotate_left
               ·simp only [Act.put, qa, qb, qc, i64_w, i32_w]
                rfl
               refine pure_ (i := 7) (N := some 33) (v := ?_) (a' := ?_) #[o,o,o,o,o,o,o,o,z,z,z,z,z,z,z,z,z,z,z,z,z,z,z,z,z,z,z,z,z,z,z,z,z,z,z,z,z,z,z,z,z,z,z,z,z,z,z,z,z,z] rfl rfl (any_of HT_.out (by kernel_rfl)) (fun _ _ _ h => h) (Or.inl ⟨by rfl, ?_⟩) ?_ ?_
               rotate_left
               ·intro w'
                go_simp
                with_reducible rfl
               rotate_left
               ·simp only [Act.put, qa, qb, qc, i64_w, i32_w]
                rfl
               refine pure_ (i := 8) (N := some 34) (v := ?_) (a' := ?_) #[o,o,o,o,o,o,o,o,o,z,z,z,z,z,z,z,z,z,z,z,z,z,z,z,z,z,z,z,z,z,z,z,z,z,z,z,z,z,z,z,z,z,z,z,z,z,z,z,z,z] rfl rfl (any_of HT_.out (by kernel_rfl)) (fun _ _ _ h => h) (Or.inl ⟨by rfl, ?_⟩) ?_ ?_
               rotate_left
               ·intro w'
                go_simp
                with_reducible rfl
               rotate_left
               ·simp only [Act.put, qa, qb, qc, i64_w, i32_w]
                rfl
               refine pure_ (i := 10) (N := some 36) (v := ?_) (a' := ?_) #[o,o,o,o,o,o,o,o,o,z,o,z,z,z,z,z,z,z,z,z,z,z,z,z,z,z,z,z,z,z,z,z,z,z,z,z,z,z,z,z,z,z,z,z,z,z,z,z,z,z] rfl rfl (any_of HT_.out (by kernel_rfl)) (fun _ _ _ h => h) (Or.inl ⟨by rfl, ?_⟩) ?_ ?_
               rotate_left
               ·intro w'
                go_simp
                with_reducible rfl
               rotate_left
               ·simp only [Act.put, qa, qb, qc, i64_w, i32_w]
                rfl
               refine pure_ (i := 11) (N := some 37) (v := ?_) (a' := ?_) #[o,o,o,o,o,o,o,o,o,z,o,o,z,z,z,z,z,z,z,z,z,z,z,z,z,z,z,z,z,z,z,z,z,z,z,z,z,z,z,z,z,z,z,z,z,z,z,z,z,z] rfl rfl (any_of HT_.out (by kernel_rfl)) (fun _ _ _ h => h) (Or.inl ⟨by rfl, ?_⟩) ?_ ?_
               rotate_left
               ·intro w'
                go_simp
                with_reducible rfl
               rotate_left
               ·simp only [Act.put, qa, qb, qc, i64_w, i32_w]
                rfl
               refine pure_ (i := 12) (N := some 38) (v := ?_) (a' := ?_) #[o,o,o,o,o,o,o,o,o,z,o,o,o,z,z,z,z,z,z,z,z,z,z,z,z,z,z,z,z,z,z,z,z,z,z,z,z,z,z,z,z,z,z,z,z,z,z,z,z,z] rfl rfl (any_of HT_.out (by kernel_rfl)) (fun _ _ _ h => h) (Or.inl ⟨by rfl, ?_⟩) ?_ ?_
               rotate_left
               ·intro w'
                go_simp
                with_reducible rfl
               rotate_left
               ·simp only [Act.put, qa, qb, qc, i64_w, i32_w]
                rfl
               refine take_ (i := 9) (N := some 35) (v := ?_) (a' := ?_) #[o,o,o,o,o,o,o,o,o,o,o,o,o,z,z,z,z,z,z,z,z,z,z,z,z,z,z,z,z,z,z,z,z,z,z,z,z,z,z,z,z,z,z,z,z,z,z,z,z,z] rfl rfl (take_ofW HT_.out HW_.out (by kernel_rfl)) (fun _ _ _ h => h) (Or.inl ⟨by rfl, ?_⟩) hHeld ?_ ?_
               rotate_left
               ·rintro w' ⟨s0, s1, s2, s3, s4, s5, s6, s7, s8, s9, s10, s11, s12, s13, s14, s15, s16, s17, s18, s19, s20, s21, s22, s23, s24, s25, s26, s27, s28, s29, s30, s31, s32, s33, s34, s35, s36, s37, s38, s39, s40, s41, s42, s43, s44, s45, s46, s47, s48, s49, s50, s51, s52, s53, s54, s55, s56, s57, s58, s59, s60, s61, s62, s63⟩
                go_simp
                with_reducible rfl
               rotate_left
               ·simp only [Act.put, qa, qb, qc, i64_w, i32_w]
                rfl
               refine take_ (i := 13) (N := some 39) (v := ?_) (a' := ?_) #[o,o,o,o,o,o,o,o,o,o,o,o,o,o,z,z,z,z,z,z,z,z,z,z,z,z,z,z,z,z,z,z,z,z,z,z,z,z,z,z,z,z,z,z,z,z,z,z,z,z] rfl rfl (take_ofW HT_.out HW_.out (by kernel_rfl)) (fun _ _ _ h => h) (Or.inl ⟨by rfl, ?_⟩) hHeld ?_ ?_
               rotate_left
               ·rintro w' ⟨s0, s1, s2, s3, s4, s5, s6, s7, s8, s9, s10, s11, s12, s13, s14, s15, s16, s17, s18, s19, s20, s21, s22, s23, s24, s25, s26, s27, s28, s29, s30, s31, s32, s33, s34, s35, s36, s37, s38, s39, s40, s41, s42, s43, s44, s45, s46, s47, s48, s49, s50, s51, s52, s53, s54, s55, s56, s57, s58, s59, s60, s61, s62, s63⟩
                go_simp
                with_reducible rfl
               rotate_left
               ·simp only [Act.put, qa, qb, qc, i64_w, i32_w]
                rfl
               refine one_ (i := 14) (N := some 40) #[o,o,o,o,o,o,o,o,o,o,o,o,o,o,o,z,z,z,z,z,z,z,z,z,z,z,z,z,z,z,z,z,z,z,z,z,z,z,z,z,z,z,z,z,z,z,z,z,z,z] rfl rfl (one_of HT_.out (by kernel_rfl)) (by decide) (fun K hK => ?_)
               refine goes_ Try.func26 (by kernel_rfl) rfl #[.agg #[.int .i64 ((rd_T46 l0 x5_2).f0), .int .i64 ((rd_T46 l0 x5_2).f1), .int .i64 ((rd_T46 l0 x5_2).f2.f0), .int .i64 ((rd_T46 l0 x5_2).f2.f1), .int .i64 ((rd_T46 l0 x5_2).f3), .int .i64 ((rd_T46 l0 x5_2).f4), .int .i64 ((rd_T46 l0 x5_2).f5.f0), .int .i64 ((rd_T46 l0 x5_2).f5.f1)], .agg #[.int .i64 ((rd_T46 l0 a1).f0), .int .i64 ((rd_T46 l0 a1).f1), .int .i64 ((rd_T46 l0 a1).f2.f0), .int .i64 ((rd_T46 l0 a1).f2.f1), .int .i64 ((rd_T46 l0 a1).f3), .int .i64 ((rd_T46 l0 a1).f4), .int .i64 ((rd_T46 l0 a1).f5.f0), .int .i64 ((rd_T46 l0 a1).f5.f1)]] (by rfl) rfl rfl (by (try simp only [List.map_toArray, List.map_cons, List.map_nil]); first | done | rfl | (simp only [List.length_drop, List.length_take]; rfl)) ?_
               with_reducible refine (spec_IsBefore.calls ((rd_T46 l0 x5_2).f0) ((rd_T46 l0 x5_2).f1) ((rd_T46 l0 x5_2).f2.f0) ((rd_T46 l0 x5_2).f2.f1) ((rd_T46 l0 x5_2).f3) ((rd_T46 l0 x5_2).f4) ((rd_T46 l0 x5_2).f5.f0) ((rd_T46 l0 x5_2).f5.f1) ((rd_T46 l0 a1).f0) ((rd_T46 l0 a1).f1) ((rd_T46 l0 a1).f2.f0) ((rd_T46 l0 a1).f2.f1) ((rd_T46 l0 a1).f3) ((rd_T46 l0 a1).f4) ((rd_T46 l0 a1).f5.f0) ((rd_T46 l0 a1).f5.f1) true _ A17.out).mono ?_
               rintro e w33 ⟨rfl, hb⟩
               refine ⟨_, rfl, ?_⟩
               replace HB := am (below_step (sB HB.out) hb)
               (try clear hb)
               (try clear hb2)
               (try clear hk)
               (try clear hi)
               refine hK.out _ _ ⟨(hc_ HB hw123_0), (hc_ HB hw123_1), (hc_ HB hw123_2), (hc_ HB hw123_3), (hc_ HB hw123_4), (hc_ HB hw123_5), (hc_ HB hw123_6), (hc_ HB hw123_7), (hc_ HB hw125_0), (hc_ HB hw125_1), (hc_ HB hw125_2), (hc_ HB hw125_3), (hc_ HB hw125_4), (hc_ HB hw125_5), (hc_ HB hw125_6), (hc_ HB hw125_7), (hc_ HB hw126_0), (hc_ HB hw126_1), (hc_ HB hw126_2), (hc_ HB hw126_3), (hc_ HB hw126_4), (hc_ HB hw126_5), (hc_ HB hw126_6), (hc_ HB hw126_7), (hc_ HB hw128_0), (hc_ HB hw128_1), (hc_ HB hw128_2), (hc_ HB hw128_3), (hc_ HB hw128_4), (hc_ HB hw128_5), (hc_ HB hw128_6), (hc_ HB hw128_7), (hc_ HB hw129_0), (hc_ HB hw129_1), (hc_ HB hw129_2), (hc_ HB hw129_3), (hc_ HB hw129_4), (hc_ HB hw129_5), (hc_ HB hw129_6), (hc_ HB hw129_7), (hc_ HB hw131_0), (hc_ HB hw131_1), (hc_ HB hw131_2), (hc_ HB hw131_3), (hc_ HB hw131_4), (hc_ HB hw131_5), (hc_ HB hw131_6), (hc_ HB hw131_7), (hc_ HB hw132_0), (hc_ HB hw132_1), (hc_ HB hw132_2), (hc_ HB hw132_3), (hc_ HB hw132_4), (hc_ HB hw132_5), (hc_ HB hw132_6), (hc_ HB hw132_7), (hc_ HB hw133_0), (hc_ HB hw133_1), (hc_ HB hw133_2), (hc_ HB hw133_3), (hc_ HB hw133_4), (hc_ HB hw133_5), (hc_ HB hw133_6), (hc_ HB hw133_7)⟩ (fun hHeld => ?_)
               clear hK K
               refine norm_ (a' := ?_) ?_ ?_
               rotate_left
               ·show Act.put _ (some 40) _ = _
                simp only [Act.put, qa, qb, qc, i64_w, i32_w]
                rfl
               refine pure_ (i := 15) (N := some 41) (v := ?_) (a' := ?_) #[o,o,o,o,o,o,o,o,o,o,o,o,o,o,o,o,z,z,z,z,z,z,z,z,z,z,z,z,z,z,z,z,z,z,z,z,z,z,z,z,z,z,z,z,z,z,z,z,z,z] rfl rfl (any_of HT_.out (by kernel_rfl)) (fun _ _ _ h => h) (Or.inl ⟨by rfl, ?_⟩) ?_ ?_
               rotate_left
               ·intro w'
                go_simp
                with_reducible rfl
               rotate_left
               ·simp only [Act.put, qa, qb, qc, i64_w, i32_w]
                rfl
               refine pure_ (i := 16) (N := some 42) (v := ?_) (a' := ?_) #[o,o,o,o,o,o,o,o,o,o,o,o,o,o,o,o,o,z,z,z,z,z,z,z,z,z,z,z,z,z,z,z,z,z,z,z,z,z,z,z,z,z,z,z,z,z,z,z,z,z] rfl rfl (any_of HT_.out (by kernel_rfl)) (fun _ _ _ h => h) (Or.inl ⟨by rfl, ?_⟩) ?_ ?_
               rotate_left
               ·intro w'
                go_simp
                with_reducible rfl
               rotate_left
               ·simp only [Act.put, qa, qb, qc, i64_w, i32_w]
                rfl
               refine pure_ (i := 17) (N := some 43) (v := ?_) (a' := ?_) #[o,o,o,o,o,o,o,o,o,o,o,o,o,o,o,o,o,o,z,z,z,z,z,z,z,z,z,z,z,z,z,z,z,z,z,z,z,z,z,z,z,z,z,z,z,z,z,z,z,z] rfl rfl (any_of HT_.out (by kernel_rfl)) (fun _ _ _ h => h) (Or.inl ⟨by rfl, ?_⟩) ?_ ?_
               rotate_left
               ·intro w'
                go_simp
                with_reducible rfl
               rotate_left
               ·simp only [Act.put, qa, qb, qc, i64_w, i32_w]
                rfl
               refine pure_ (i := 18) (N := some 44) (v := ?_) (a' := ?_) #[o,o,o,o,o,o,o,o,o,o,o,o,o,o,o,o,o,o,o,z,z,z,z,z,z,z,z,z,z,z,z,z,z,z,z,z,z,z,z,z,z,z,z,z,z,z,z,z,z,z] rfl rfl (any_of HT_.out (by kernel_rfl)) (fun _ _ _ h => h) (Or.inl ⟨by rfl, ?_⟩) ?_ ?_
               rotate_left
               ·intro w'
                go_simp
                with_reducible rfl
               rotate_left
               ·simp only [Act.put, qa, qb, qc, i64_w, i32_w]
                rfl
               refine pure_ (i := 19) (N := some 45) (v := ?_) (a' := ?_) #[o,o,o,o,o,o,o,o,o,o,o,o,o,o,o,o,o,o,o,o,z,z,z,z,z,z,z,z,z,z,z,z,z,z,z,z,z,z,z,z,z,z,z,z,z,z,z,z,z,z] rfl rfl (any_of HT_.out (by kernel_rfl)) (fun _ _ _ h => h) (Or.inl ⟨by rfl, ?_⟩) ?_ ?_
               rotate_left
               ·intro w'
                go_simp
                with_reducible rfl
               rotate_left
               ·simp only [Act.put, qa, qb, qc, i64_w, i32_w]
                rfl
               refine pure_ (i := 20) (N := some 46) (v := ?_) (a' := ?_) #[o,o,o,o,o,o,o,o,o,o,o,o,o,o,o,o,o,o,o,o,o,z,z,z,z,z,z,z,z,z,z,z,z,z,z,z,z,z,z,z,z,z,z,z,z,z,z,z,z,z] rfl rfl (any_of HT_.out (by kernel_rfl)) (fun _ _ _ h => h) (Or.inl ⟨by rfl, ?_⟩) ?_ ?_
               rotate_left
               ·intro w'
                go_simp
                with_reducible rfl
               rotate_left
               ·simp only [Act.put, qa, qb, qc, i64_w, i32_w]
                rfl
               refine pure_ (i := 22) (N := some 48) (v := ?_) (a' := ?_) #[o,o,o,o,o,o,o,o,o,o,o,o,o,o,o,o,o,o,o,o,o,z,o,z,z,z,z,z,z,z,z,z,z,z,z,z,z,z,z,z,z,z,z,z,z,z,z,z,z,z] rfl rfl (any_of HT_.out (by kernel_rfl)) (fun _ _ _ h => h) (Or.inl ⟨by rfl, ?_⟩) ?_ ?_
               rotate_left
               ·intro w'
                go_simp
                with_reducible rfl
               rotate_left
               ·simp only [Act.put, qa, qb, qc, i64_w, i32_w]
                rfl
               refine pure_ (i := 23) (N := some 49) (v := ?_) (a' := ?_) #[o,o,o,o,o,o,o,o,o,o,o,o,o,o,o,o,o,o,o,o,o,z,o,o,z,z,z,z,z,z,z,z,z,z,z,z,z,z,z,z,z,z,z,z,z,z,z,z,z,z] rfl rfl (any_of HT_.out (by kernel_rfl)) (fun _ _ _ h => h) (Or.inl ⟨by rfl, ?_⟩) ?_ ?_
               rotate_left
               ·intro w'
                go_simp
                with_reducible rfl
               rotate_left
               ·simp only [Act.put, qa, qb, qc, i64_w, i32_w]
                rfl
               refine pure_ (i := 24) (N := some 50) (v := ?_) (a' := ?_) #[o,o,o,o,o,o,o,o,o,o,o,o,o,o,o,o,o,o,o,o,o,z,o,o,o,z,z,z,z,z,z,z,z,z,z,z,z,z,z,z,z,z,z,z,z,z,z,z,z,z] rfl rfl (any_of HT_.out (by kernel_rfl)) (fun _ _ _ h => h) (Or.inl ⟨by rfl, ?_⟩) ?_ ?_
               rotate_left
               ·intro w'
                go_simp
                with_reducible rfl
               rotate_left
               ·simp only [Act.put, qa, qb, qc, i64_w, i32_w]
                rfl
               refine pure_ (i := 25) (N := some 51) (v := ?_) (a' := ?_) #[o,o,o,o,o,o,o,o,o,o,o,o,o,o,o,o,o,o,o,o,o,z,o,o,o,o,z,z,z,z,z,z,z,z,z,z,z,z,z,z,z,z,z,z,z,z,z,z,z,z] rfl rfl (any_of HT_.out (by kernel_rfl)) (fun _ _ _ h => h) (Or.inl ⟨by rfl, ?_⟩) ?_ ?_
               rotate_left
               ·intro w'
                go_simp
                with_reducible rfl
               rotate_left
               ·simp only [Act.put, qa, qb, qc, i64_w, i32_w]
                rfl
               refine take_ (i := 21) (N := some 47) (v := ?_) (a' := ?_) #[o,o,o,o,o,o,o,o,o,o,o,o,o,o,o,o,o,o,o,o,o,o,o,o,o,o,z,z,z,z,z,z,z,z,z,z,z,z,z,z,z,z,z,z,z,z,z,z,z,z] rfl rfl (take_ofW HT_.out HW_.out (by kernel_rfl)) (fun _ _ _ h => h) (Or.inl ⟨by rfl, ?_⟩) hHeld ?_ ?_
               rotate_left
               ·rintro w' ⟨s0, s1, s2, s3, s4, s5, s6, s7, s8, s9, s10, s11, s12, s13, s14, s15, s16, s17, s18, s19, s20, s21, s22, s23, s24, s25, s26, s27, s28, s29, s30, s31, s32, s33, s34, s35, s36, s37, s38, s39, s40, s41, s42, s43, s44, s45, s46, s47, s48, s49, s50, s51, s52, s53, s54, s55, s56, s57, s58, s59, s60, s61, s62, s63⟩
                go_simp
                with_reducible rfl
               rotate_left
               ·simp only [Act.put, qa, qb, qc, i64_w, i32_w]
                rfl
               refine take_ (i := 26) (N := some 52) (v := ?_) (a' := ?_) #[o,o,o,o,o,o,o,o,o,o,o,o,o,o,o,o,o,o,o,o,o,o,o,o,o,o,o,z,z,z,z,z,z,z,z,z,z,z,z,z,z,z,z,z,z,z,z,z,z,z] rfl rfl (take_ofW HT_.out HW_.out (by kernel_rfl)) (fun _ _ _ h => h) (Or.inl ⟨by rfl, ?_⟩) hHeld ?_ ?_
               rotate_left
               ·rintro w' ⟨s0, s1, s2, s3, s4, s5, s6, s7, s8, s9, s10, s11, s12, s13, s14, s15, s16, s17, s18, s19, s20, s21, s22, s23, s24, s25, s26, s27, s28, s29, s30, s31, s32, s33, s34, s35, s36, s37, s38, s39, s40, s41, s42, s43, s44, s45, s46, s47, s48, s49, s50, s51, s52, s53, s54, s55, s56, s57, s58, s59, s60, s61, s62, s63⟩
                go_simp
                with_reducible rfl
               rotate_left
               ·simp only [Act.put, qa, qb, qc, i64_w, i32_w]
                rfl
               refine one_ (i := 27) (N := some 53) #[o,o,o,o,o,o,o,o,o,o,o,o,o,o,o,o,o,o,o,o,o,o,o,o,o,o,o,o,z,z,z,z,z,z,z,z,z,z,z,z,z,z,z,z,z,z,z,z,z,z] rfl rfl (one_of HT_.out (by kernel_rfl)) (by decide) (fun K hK => ?_)
               refine goes_ Try.func27 (by kernel_rfl) rfl #[.agg #[.int .i64 ((rd_T46 l0 a1).f2.f0), .int .i64 ((rd_T46 l0 a1).f2.f1)], .agg #[.int .i64 ((rd_T46 l0 x5_2).f2.f0), .int .i64 ((rd_T46 l0 x5_2).f2.f1)]] (by rfl) rfl rfl (by (try simp only [List.map_toArray, List.map_cons, List.map_nil]); first | done | rfl | (simp only [List.length_drop, List.length_take]; rfl)) ?_
               with_reducible refine (spec_IsNarrower.calls ((rd_T46 l0 a1).f2.f0) ((rd_T46 l0 a1).f2.f1) ((rd_T46 l0 x5_2).f2.f0) ((rd_T46 l0 x5_2).f2.f1) true _ A19.out).mono ?_
               rintro e w34 ⟨rfl, hb⟩
               refine ⟨_, rfl, ?_⟩
               replace HB := am (below_step (sB HB.out) hb)
               (try clear hb)
               (try clear hb2)
               (try clear hk)
               (try clear hi)
               refine hK.out _ _ ⟨(hc_ HB hw123_0), (hc_ HB hw123_1), (hc_ HB hw123_2), (hc_ HB hw123_3), (hc_ HB hw123_4), (hc_ HB hw123_5), (hc_ HB hw123_6), (hc_ HB hw123_7), (hc_ HB hw125_0), (hc_ HB hw125_1), (hc_ HB hw125_2), (hc_ HB hw125_3), (hc_ HB hw125_4), (hc_ HB hw125_5), (hc_ HB hw125_6), (hc_ HB hw125_7), (hc_ HB hw126_0), (hc_ HB hw126_1), (hc_ HB hw126_2), (hc_ HB hw126_3), (hc_ HB hw126_4), (hc_ HB hw126_5), (hc_ HB hw126_6), (hc_ HB hw126_7), (hc_ HB hw128_0), (hc_ HB hw128_1), (hc_ HB hw128_2), (hc_ HB hw128_3), (hc_ HB hw128_4), (hc_ HB hw128_5), (hc_ HB hw128_6), (hc_ HB hw128_7), (hc_ HB hw129_0), (hc_ HB hw129_1), (hc_ HB hw129_2), (hc_ HB hw129_3), (hc_ HB hw129_4), (hc_ HB hw129_5), (hc_ HB hw129_6), (hc_ HB hw129_7), (hc_ HB hw131_0), (hc_ HB hw131_1), (hc_ HB hw131_2), (hc_ HB hw131_3), (hc_ HB hw131_4), (hc_ HB hw131_5), (hc_ HB hw131_6), (hc_ HB hw131_7), (hc_ HB hw132_0), (hc_ HB hw132_1), (hc_ HB hw132_2), (hc_ HB hw132_3), (hc_ HB hw132_4), (hc_ HB hw132_5), (hc_ HB hw132_6), (hc_ HB hw132_7), (hc_ HB hw133_0), (hc_ HB hw133_1), (hc_ HB hw133_2), (hc_ HB hw133_3), (hc_ HB hw133_4), (hc_ HB hw133_5), (hc_ HB hw133_6), (hc_ HB hw133_7)⟩ (fun hHeld => ?_)
               clear hK K
               refine norm_ (a' := ?_) ?_ ?_
               rotate_left
               ·show Act.put _ (some 53) _ = _
                simp only [Act.put, qa, qb, qc, i64_w, i32_w]
                rfl
               refine pure_ (i := 28) (N := some 54) (v := ?_) (a' := ?_) #[o,o,o,o,o,o,o,o,o,o,o,o,o,o,o,o,o,o,o,o,o,o,o,o,o,o,o,o,o,z,z,z,z,z,z,z,z,z,z,z,z,z,z,z,z,z,z,z,z,z] rfl rfl (any_of HT_.out (by kernel_rfl)) (fun _ _ _ h => h) (Or.inl ⟨by rfl, ?_⟩) ?_ ?_
               rotate_left
               ·intro w'
                go_simp
                with_reducible rfl
               rotate_left
               ·simp only [Act.put, qa, qb, qc, i64_w, i32_w]
                rfl
               refine pure_ (i := 29) (N := some 55) (v := ?_) (a' := ?_) #[o,o,o,o,o,o,o,o,o,o,o,o,o,o,o,o,o,o,o,o,o,o,o,o,o,o,o,o,o,o,z,z,z,z,z,z,z,z,z,z,z,z,z,z,z,z,z,z,z,z] rfl rfl (any_of HT_.out (by kernel_rfl)) (fun _ _ _ h => h) (Or.inl ⟨by rfl, ?_⟩) ?_ ?_
               rotate_left
               ·intro w'
                go_simp
                with_reducible rfl
               rotate_left
               ·simp only [Act.put, qa, qb, qc, i64_w, i32_w]
                rfl
               refine pure_ (i := 30) (N := some 56) (v := ?_) (a' := ?_) #[o,o,o,o,o,o,o,o,o,o,o,o,o,o,o,o,o,o,o,o,o,o,o,o,o,o,o,o,o,o,o,z,z,z,z,z,z,z,z,z,z,z,z,z,z,z,z,z,z,z] rfl rfl (any_of HT_.out (by kernel_rfl)) (fun _ _ _ h => h) (Or.inl ⟨by rfl, ?_⟩) ?_ ?_
               rotate_left
               ·intro w'
                go_simp
                with_reducible rfl
               rotate_left
               ·simp only [Act.put, qa, qb, qc, i64_w, i32_w]
                rfl
               refine pure_ (i := 31) (N := some 57) (v := ?_) (a' := ?_) #[o,o,o,o,o,o,o,o,o,o,o,o,o,o,o,o,o,o,o,o,o,o,o,o,o,o,o,o,o,o,o,o,z,z,z,z,z,z,z,z,z,z,z,z,z,z,z,z,z,z] rfl rfl (any_of HT_.out (by kernel_rfl)) (fun _ _ _ h => h) (Or.inl ⟨by rfl, ?_⟩) ?_ ?_
               rotate_left
               ·intro w'
                go_simp
                with_reducible rfl
               rotate_left
               ·simp only [Act.put, qa, qb, qc, i64_w, i32_w]
                rfl
               refine pure_ (i := 32) (N := some 58) (v := ?_) (a' := ?_) #[o,o,o,o,o,o,o,o,o,o,o,o,o,o,o,o,o,o,o,o,o,o,o,o,o,o,o,o,o,o,o,o,o,z,z,z,z,z,z,z,z,z,z,z,z,z,z,z,z,z] rfl rfl (any_of HT_.out (by kernel_rfl)) (fun _ _ _ h => h) (Or.inl ⟨by rfl, ?_⟩) ?_ ?_
               rotate_left
               ·intro w'
                go_simp
                with_reducible rfl
               rotate_left
               ·simp only [Act.put, qa, qb, qc, i64_w, i32_w]
                rfl
               refine pure_ (i := 33) (N := some 59) (v := ?_) (a' := ?_) #[o,o,o,o,o,o,o,o,o,o,o,o,o,o,o,o,o,o,o,o,o,o,o,o,o,o,o,o,o,o,o,o,o,o,z,z,z,z,z,z,z,z,z,z,z,z,z,z,z,z] rfl rfl (any_of HT_.out (by kernel_rfl)) (fun _ _ _ h => h) (Or.inl ⟨by rfl, ?_⟩) ?_ ?_
               rotate_left
               ·intro w'
                go_simp
                with_reducible rfl
               rotate_left
               ·simp only [Act.put, qa, qb, qc, i64_w, i32_w]
                rfl
               refine take_ (i := 34) (N := some 60) (v := ?_) (a' := ?_) #[o,o,o,o,o,o,o,o,o,o,o,o,o,o,o,o,o,o,o,o,o,o,o,o,o,o,o,o,o,o,o,o,o,o,o,z,z,z,z,z,z,z,z,z,z,z,z,z,z,z] rfl rfl (take_ofW HT_.out HW_.out (by kernel_rfl)) (fun _ _ _ h => h) (Or.inl ⟨by rfl, ?_⟩) hHeld ?_ ?_
               rotate_left
               ·rintro w' ⟨s0, s1, s2, s3, s4, s5, s6, s7, s8, s9, s10, s11, s12, s13, s14, s15, s16, s17, s18, s19, s20, s21, s22, s23, s24, s25, s26, s27, s28, s29, s30, s31, s32, s33, s34, s35, s36, s37, s38, s39, s40, s41, s42, s43, s44, s45, s46, s47, s48, s49, s50, s51, s52, s53, s54, s55, s56, s57, s58, s59, s60, s61, s62, s63⟩
                go_simp
                with_reducible rfl
               rotate_left
               ·simp only [Act.put, qa, qb, qc, i64_w, i32_w]
                rfl
               refine pure_ (i := 35) (N := some 61) (v := ?_) (a' := ?_) #[o,o,o,o,o,o,o,o,o,o,o,o,o,o,o,o,o,o,o,o,o,o,o,o,o,o,o,o,o,o,o,o,o,o,o,o,z,z,z,z,z,z,z,z,z,z,z,z,z,z] rfl rfl (any_of HT_.out (by kernel_rfl)) (fun _ _ _ h => h) (Or.inl ⟨by rfl, ?_⟩) ?_ ?_
               rotate_left
               ·intro w'
                go_simp
                with_reducible rfl
               rotate_left
               ·simp only [Act.put, qa, qb, qc, i64_w, i32_w]
                rfl
               refine pure_ (i := 36) (N := some 62) (v := ?_) (a' := ?_) #[o,o,o,o,o,o,o,o,o,o,o,o,o,o,o,o,o,o,o,o,o,o,o,o,o,o,o,o,o,o,o,o,o,o,o,o,o,z,z,z,z,z,z,z,z,z,z,z,z,z] rfl rfl (any_of HT_.out (by kernel_rfl)) (fun _ _ _ h => h) (Or.inl ⟨by rfl, ?_⟩) ?_ ?_
               rotate_left
               ·intro w'
                go_simp
                with_reducible rfl
               rotate_left
               ·simp only [Act.put, qa, qb, qc, i64_w, i32_w]
                rfl
               refine pure_ (i := 37) (N := some 63) (v := ?_) (a' := ?_) #[o,o,o,o,o,o,o,o,o,o,o,o,o,o,o,o,o,o,o,o,o,o,o,o,o,o,o,o,o,o,o,o,o,o,o,o,o,o,z,z,z,z,z,z,z,z,z,z,z,z] rfl rfl (any_of HT_.out (by kernel_rfl)) (fun _ _ _ h => h) (Or.inl ⟨by rfl, ?_⟩) ?_ ?_
               rotate_left
               ·intro w'
                go_simp
                with_reducible rfl
               rotate_left
               ·simp only [Act.put, qa, qb, qc, i64_w, i32_w]
                rfl
               refine pure_ (i := 38) (N := some 64) (v := ?_) (a' := ?_) #[o,o,o,o,o,o,o,o,o,o,o,o,o,o,o,o,o,o,o,o,o,o,o,o,o,o,o,o,o,o,o,o,o,o,o,o,o,o,o,z,z,z,z,z,z,z,z,z,z,z] rfl rfl (any_of HT_.out (by kernel_rfl)) (fun _ _ _ h => h) (Or.inl ⟨by rfl, ?_⟩) ?_ ?_
               rotate_left
               ·intro w'
                go_simp
                with_reducible rfl
               rotate_left
               ·simp only [Act.put, qa, qb, qc, i64_w, i32_w]
                rfl
               refine pure_ (i := 39) (N := some 65) (v := ?_) (a' := ?_) #[o,o,o,o,o,o,o,o,o,o,o,o,o,o,o,o,o,o,o,o,o,o,o,o,o,o,o,o,o,o,o,o,o,o,o,o,o,o,o,o,z,z,z,z,z,z,z,z,z,z] rfl rfl (any_of HT_.out (by kernel_rfl)) (fun _ _ _ h => h) (Or.inl ⟨by rfl, ?_⟩) ?_ ?_
               rotate_left
               ·intro w'
                go_simp
                with_reducible rfl
               rotate_left
               ·simp only [Act.put, qa, qb, qc, i64_w, i32_w]
                rfl
               refine pure_ (i := 40) (N := some 66) (v := ?_) (a' := ?_) #[o,o,o,o,o,o,o,o,o,o,o,o,o,o,o,o,o,o,o,o,o,o,o,o,o,o,o,o,o,o,o,o,o,o,o,o,o,o,o,o,o,z,z,z,z,z,z,z,z,z] rfl rfl (any_of HT_.out (by kernel_rfl)) (fun _ _ _ h => h) (Or.inl ⟨by rfl, ?_⟩) ?_ ?_
               rotate_left
               ·intro w'
                go_simp
                with_reducible rfl
               rotate_left
               ·simp only [Act.put, qa, qb, qc, i64_w, i32_w]
                rfl
               refine pure_ (i := 42) (N := some 68) (v := ?_) (a' := ?_) #[o,o,o,o,o,o,o,o,o,o,o,o,o,o,o,o,o,o,o,o,o,o,o,o,o,o,o,o,o,o,o,o,o,o,o,o,o,o,o,o,o,z,o,z,z,z,z,z,z,z] rfl rfl (any_of HT_.out (by kernel_rfl)) (fun _ _ _ h => h) (Or.inl ⟨by rfl, ?_⟩) ?_ ?_
               rotate_left
               ·intro w'
                go_simp
                with_reducible rfl
               rotate_left
               ·simp only [Act.put, qa, qb, qc, i64_w, i32_w]
                rfl
               refine pure_ (i := 43) (N := some 69) (v := ?_) (a' := ?_) #[o,o,o,o,o,o,o,o,o,o,o,o,o,o,o,o,o,o,o,o,o,o,o,o,o,o,o,o,o,o,o,o,o,o,o,o,o,o,o,o,o,z,o,o,z,z,z,z,z,z] rfl rfl (any_of HT_.out (by kernel_rfl)) (fun _ _ _ h => h) (Or.inl ⟨by rfl, ?_⟩) ?_ ?_
               rotate_left
               ·intro w'
                go_simp
                with_reducible rfl
               rotate_left
               ·simp only [Act.put, qa, qb, qc, i64_w, i32_w]
                rfl
               refine pure_ (i := 44) (N := some 70) (v := ?_) (a' := ?_) #[o,o,o,o,o,o,o,o,o,o,o,o,o,o,o,o,o,o,o,o,o,o,o,o,o,o,o,o,o,o,o,o,o,o,o,o,o,o,o,o,o,z,o,o,o,z,z,z,z,z] rfl rfl (any_of HT_.out (by kernel_rfl)) (fun _ _ _ h => h) (Or.inl ⟨by rfl, ?_⟩) ?_ ?_
               rotate_left
               ·intro w'
                go_simp
                with_reducible rfl
               rotate_left
               ·simp only [Act.put, qa, qb, qc, i64_w, i32_w]
                rfl
               refine pure_ (i := 45) (N := some 71) (v := ?_) (a' := ?_) #[o,o,o,o,o,o,o,o,o,o,o,o,o,o,o,o,o,o,o,o,o,o,o,o,o,o,o,o,o,o,o,o,o,o,o,o,o,o,o,o,o,z,o,o,o,o,z,z,z,z] rfl rfl (any_of HT_.out (by kernel_rfl)) (fun _ _ _ h => h) (Or.inl ⟨by rfl, ?_⟩) ?_ ?_
               rotate_left
               ·intro w'
                go_simp
                with_reducible rfl
               rotate_left
               ·simp only [Act.put, qa, qb, qc, i64_w, i32_w]
                rfl
               refine take_ (i := 41) (N := some 67) (v := ?_) (a' := ?_) #[o,o,o,o,o,o,o,o,o,o,o,o,o,o,o,o,o,o,o,o,o,o,o,o,o,o,o,o,o,o,o,o,o,o,o,o,o,o,o,o,o,o,o,o,o,o,z,z,z,z] rfl rfl (take_ofW HT_.out HW_.out (by kernel_rfl)) (fun _ _ _ h => h) (Or.inl ⟨by rfl, ?_⟩) hHeld ?_ ?_
               rotate_left
               ·rintro w' ⟨s0, s1, s2, s3, s4, s5, s6, s7, s8, s9, s10, s11, s12, s13, s14, s15, s16, s17, s18, s19, s20, s21, s22, s23, s24, s25, s26, s27, s28, s29, s30, s31, s32, s33, s34, s35, s36, s37, s38, s39, s40, s41, s42, s43, s44, s45, s46, s47, s48, s49, s50, s51, s52, s53, s54, s55, s56, s57, s58, s59, s60, s61, s62, s63⟩
                go_simp
                with_reducible rfl
               rotate_left
               ·simp only [Act.put, qa, qb, qc, i64_w, i32_w]
                rfl
               refine take_ (i := 46) (N := some 72) (v := ?_) (a' := ?_) #[o,o,o,o,o,o,o,o,o,o,o,o,o,o,o,o,o,o,o,o,o,o,o,o,o,o,o,o,o,o,o,o,o,o,o,o,o,o,o,o,o,o,o,o,o,o,o,z,z,z] rfl rfl (take_ofW HT_.out HW_.out (by kernel_rfl)) (fun _ _ _ h => h) (Or.inl ⟨by rfl, ?_⟩) hHeld ?_ ?_
               rotate_left
               ·rintro w' ⟨s0, s1, s2, s3, s4, s5, s6, s7, s8, s9, s10, s11, s12, s13, s14, s15, s16, s17, s18, s19, s20, s21, s22, s23, s24, s25, s26, s27, s28, s29, s30, s31, s32, s33, s34, s35, s36, s37, s38, s39, s40, s41, s42, s43, s44, s45, s46, s47, s48, s49, s50, s51, s52, s53, s54, s55, s56, s57, s58, s59, s60, s61, s62, s63⟩
                go_simp
                with_reducible rfl
               rotate_left
               ·simp only [Act.put, qa, qb, qc, i64_w, i32_w]
                rfl
               refine pure_ (i := 47) (N := some 73) (v := ?_) (a' := ?_) #[o,o,o,o,o,o,o,o,o,o,o,o,o,o,o,o,o,o,o,o,o,o,o,o,o,o,o,o,o,o,o,o,o,o,o,o,o,o,o,o,o,o,o,o,o,o,o,o,z,z] rfl rfl (any_of HT_.out (by kernel_rfl)) (fun _ _ _ h => h) (Or.inl ⟨by rfl, ?_⟩) ?_ ?_
               rotate_left
               ·intro w'
                go_simp
                with_reducible rfl
               rotate_left
               ·simp only [Act.put, qa, qb, qc, i64_w, i32_w]
                rfl
               refine pure_ (i := 48) (N := some 74) (v := ?_) (a' := ?_) #[o,o,o,o,o,o,o,o,o,o,o,o,o,o,o,o,o,o,o,o,o,o,o,o,o,o,o,o,o,o,o,o,o,o,o,o,o,o,o,o,o,o,o,o,o,o,o,o,o,z] rfl rfl (any_of HT_.out (by kernel_rfl)) (fun _ _ _ h => h) (Or.inl ⟨by rfl, ?_⟩) ?_ ?_
               rotate_left
               ·intro w'
                go_simp
                with_reducible rfl
               rotate_left
               ·simp only [Act.put, qa, qb, qc, i64_w, i32_w]
                rfl
               refine pure_ (i := 49) (N := some 75) (v := ?_) (a' := ?_) #[o,o,o,o,o,o,o,o,o,o,o,o,o,o,o,o,o,o,o,o,o,o,o,o,o,o,o,o,o,o,o,o,o,o,o,o,o,o,o,o,o,o,o,o,o,o,o,o,o,o] rfl rfl (any_of HT_.out (by kernel_rfl)) (fun _ _ _ h => h) (Or.inl ⟨by rfl, ?_⟩) ?_ ?_
               rotate_left
               ·intro w'
                go_simp
                with_reducible rfl
               rotate_left
               ·simp only [Act.put, qa, qb, qc, i64_w, i32_w]
                rfl
               refine done_ (done_of HT_.out (by kernel_rfl)) ?_
               try go_wp2
               go_roundg k2
               case measure => have := HJ2.out; have := HK2.out; omega
               case rel => exact ⟨(wrap64 (x5_2 + 1)), (by first | rfl | (simp; done) | (simp [*]; done)), H', ⟨by have := HJ2.out; have := HK2.out; omega⟩, ⟨sB HB.out⟩⟩
            ·replace c20 := Bool.eq_false_iff.mpr c20
             subst c20
             have H1 : (spec_IsShadowed.l0 k2 l0 a1 (wrap64 (x5_2 + 1))) = some r := by rw [if_neg (show ¬ (false = true) by decide)] at H; exact H
             clear H
             have H := H1
             clear H1
             have H' := Aside0.mk H
             clear H
             try go_wp2
             replace HB := am (below_drew1 HB.out)
             have p123 : 0 ≤ (x5_2 : Int) := of_decide_eq_true (by first | (with_reducible assumption) | assumption)
             have q123 : x5_2 < (l0.length : Int) := of_decide_eq_true (by first | (with_reducible assumption) | assumption)
             obtain ⟨ad123, e123, hx123_0, hx123_1, hx123_2, hx123_3, hx123_4, hx123_5, hx123_6, hx123_7⟩ := at_T46 HR0.out x5_2 p123 q123
             have hw123_7 := hx123_7
             have hw123_6 := hx123_6
             have hw123_5 := hx123_5
             have hw123_4 := hx123_4
             have hw123_3 := hx123_3
             have hw123_2 := hx123_2
             have hw123_1 := hx123_1
             have hw123_0 := hx123_0
             cases e123
             replace hx123_0 := hc_ HB hx123_0
             replace hx123_1 := hc_ HB hx123_1
             replace hx123_2 := hc_ HB hx123_2
             replace hx123_3 := hc_ HB hx123_3
             replace hx123_4 := hc_ HB hx123_4
             replace hx123_5 := hc_ HB hx123_5
             replace hx123_6 := hc_ HB hx123_6
             replace hx123_7 := hc_ HB hx123_7
             replace p123 := eq_true p123
             replace q123 := eq_true q123
             have p125 : 0 ≤ (x5_2 : Int) := of_decide_eq_true (by first | (with_reducible assumption) | assumption)
             have q125 : x5_2 < (l0.length : Int) := of_decide_eq_true (by first | (with_reducible assumption) | assumption)
             obtain ⟨ad125, e125, hx125_0, hx125_1, hx125_2, hx125_3, hx125_4, hx125_5, hx125_6, hx125_7⟩ := at_T46 HR0.out x5_2 p125 q125
             have hw125_7 := hx125_7
             have hw125_6 := hx125_6
             have hw125_5 := hx125_5
             have hw125_4 := hx125_4
             have hw125_3 := hx125_3
             have hw125_2 := hx125_2
             have hw125_1 := hx125_1
             have hw125_0 := hx125_0
             obtain rfl : ad123 = ad125 := (by injection e125)
             replace hx125_0 := hc_ HB hx125_0
             replace hx125_1 := hc_ HB hx125_1
             replace hx125_2 := hc_ HB hx125_2
             replace hx125_3 := hc_ HB hx125_3
             replace hx125_4 := hc_ HB hx125_4
             replace hx125_5 := hc_ HB hx125_5
             replace hx125_6 := hc_ HB hx125_6
             replace hx125_7 := hc_ HB hx125_7
             replace p125 := eq_true p125
             replace q125 := eq_true q125
             have p126 : 0 ≤ (a1 : Int) := of_decide_eq_true (by first | (with_reducible assumption) | assumption)
             have q126 : a1 < (l0.length : Int) := of_decide_eq_true (by first | (with_reducible assumption) | assumption)
             obtain ⟨ad126, e126, hx126_0, hx126_1, hx126_2, hx126_3, hx126_4, hx126_5, hx126_6, hx126_7⟩ := at_T46 HR0.out a1 p126 q126
             have hw126_7 := hx126_7
             have hw126_6 := hx126_6
             have hw126_5 := hx126_5
             have hw126_4 := hx126_4
             have hw126_3 := hx126_3
             have hw126_2 := hx126_2
             have hw126_1 := hx126_1
             have hw126_0 := hx126_0
             obtain rfl : ad123 = ad126 := (by injection e126)
             replace hx126_0 := hc_ HB hx126_0
             replace hx126_1 := hc_ HB hx126_1
             replace hx126_2 := hc_ HB hx126_2
             replace hx126_3 := hc_ HB hx126_3
             replace hx126_4 := hc_ HB hx126_4
             replace hx126_5 := hc_ HB hx126_5
             replace hx126_6 := hc_ HB hx126_6
             replace hx126_7 := hc_ HB hx126_7
             replace p126 := eq_true p126
             replace q126 := eq_true q126
             have p128 : 0 ≤ (a1 : Int) := of_decide_eq_true (by first | (with_reducible assumption) | assumption)
             have q128 : a1 < (l0.length : Int) := of_decide_eq_true (by first | (with_reducible assumption) | assumption)
             obtain ⟨ad128, e128, hx128_0, hx128_1, hx128_2, hx128_3, hx128_4, hx128_5, hx128_6, hx128_7⟩ := at_T46 HR0.out a1 p128 q128
             have hw128_7 := hx128_7
             have hw128_6 := hx128_6
             have hw128_5 := hx128_5
             have hw128_4 := hx128_4
             have hw128_3 := hx128_3
             have hw128_2 := hx128_2
             have hw128_1 := hx128_1
             have hw128_0 := hx128_0
             obtain rfl : ad123 = ad128 := (by injection e128)
             replace hx128_0 := hc_ HB hx128_0
             replace hx128_1 := hc_ HB hx128_1
             replace hx128_2 := hc_ HB hx128_2
             replace hx128_3 := hc_ HB hx128_3
             replace hx128_4 := hc_ HB hx128_4
             replace hx128_5 := hc_ HB hx128_5
             replace hx128_6 := hc_ HB hx128_6
             replace hx128_7 := hc_ HB hx128_7
             replace p128 := eq_true p128
             replace q128 := eq_true q128
             have p129 : 0 ≤ (x5_2 : Int) := of_decide_eq_true (by first | (with_reducible assumption) | assumption)
             have q129 : x5_2 < (l0.length : Int) := of_decide_eq_true (by first | (with_reducible assumption) | assumption)
             obtain ⟨ad129, e129, hx129_0, hx129_1, hx129_2, hx129_3, hx129_4, hx129_5, hx129_6, hx129_7⟩ := at_T46 HR0.out x5_2 p129 q129
             have hw129_7 := hx129_7
             have hw129_6 := hx129_6
             have hw129_5 := hx129_5
             have hw129_4 := hx129_4
             have hw129_3 := hx129_3
             have hw129_2 := hx129_2
             have hw129_1 := hx129_1
             have hw129_0 := hx129_0
             obtain rfl : ad123 = ad129 := (by injection e129)
             replace hx129_0 := hc_ HB hx129_0
             replace hx129_1 := hc_ HB hx129_1
             replace hx129_2 := hc_ HB hx129_2
             replace hx129_3 := hc_ HB hx129_3
             replace hx129_4 := hc_ HB hx129_4
             replace hx129_5 := hc_ HB hx129_5
             replace hx129_6 := hc_ HB hx129_6
             replace hx129_7 := hc_ HB hx129_7
             replace p129 := eq_true p129
             replace q129 := eq_true q129
             refine start_ (n := 50) (S := fun w' => w'.cell? (ad123.add ((x5_2).toNat * 8)) = some (.int .i64 ((rd_T46 l0 x5_2).f0)) ∧ w'.cell? ⟨(ad123.add ((x5_2).toNat * 8)).block, (ad123.add ((x5_2).toNat * 8)).off + 1, none⟩ = some (.int .i64 ((rd_T46 l0 x5_2).f1)) ∧ w'.cell? ⟨(ad123.add ((x5_2).toNat * 8)).block, (ad123.add ((x5_2).toNat * 8)).off + 2, none⟩ = some (.int .i64 ((rd_T46 l0 x5_2).f2.f0)) ∧ w'.cell? ⟨(ad123.add ((x5_2).toNat * 8)).block, (ad123.add ((x5_2).toNat * 8)).off + 3, none⟩ = some (.int .i64 ((rd_T46 l0 x5_2).f2.f1)) ∧ w'.cell? ⟨(ad123.add ((x5_2).toNat * 8)).block, (ad123.add ((x5_2).toNat * 8)).off + 4, none⟩ = some (.int .i64 ((rd_T46 l0 x5_2).f3)) ∧ w'.cell? ⟨(ad123.add ((x5_2).toNat * 8)).block, (ad123.add ((x5_2).toNat * 8)).off + 5, none⟩ = some (.int .i64 ((rd_T46 l0 x5_2).f4)) ∧ w'.cell? ⟨(ad123.add ((x5_2).toNat * 8)).block, (ad123.add ((x5_2).toNat * 8)).off + 6, none⟩ = some (.int .i64 ((rd_T46 l0 x5_2).f5.f0)) ∧ w'.cell? ⟨(ad123.add ((x5_2).toNat * 8)).block, (ad123.add ((x5_2).toNat * 8)).off + 7, none⟩ = some (.int .i64 ((rd_T46 l0 x5_2).f5.f1)) ∧ w'.cell? (ad123.add ((x5_2).toNat * 8)) = some (.int .i64 ((rd_T46 l0 x5_2).f0)) ∧ w'.cell? ⟨(ad123.add ((x5_2).toNat * 8)).block, (ad123.add ((x5_2).toNat * 8)).off + 1, none⟩ = some (.int .i64 ((rd_T46 l0 x5_2).f1)) ∧ w'.cell? ⟨(ad123.add ((x5_2).toNat * 8)).block, (ad123.add ((x5_2).toNat * 8)).off + 2, none⟩ = some (.int .i64 ((rd_T46 l0 x5_2).f2.f0)) ∧ w'.cell? ⟨(ad123.add ((x5_2).toNat * 8)).block, (ad123.add ((x5_2).toNat * 8)).off + 3, none⟩ = some (.int .i64 ((rd_T46 l0 x5_2).f2.f1)) ∧ w'.cell? ⟨(ad123.add ((x5_2).toNat * 8)).block, (ad123.add ((x5_2).toNat * 8)).off + 4, none⟩ = some (.int .i64 ((rd_T46 l0 x5_2).f3)) ∧ w'.cell? ⟨(ad123.add ((x5_2).toNat * 8)).block, (ad123.add ((x5_2).toNat * 8)).off + 5, none⟩ = some (.int .i64 ((rd_T46 l0 x5_2).f4)) ∧ w'.cell? ⟨(ad123.add ((x5_2).toNat * 8)).block, (ad123.add ((x5_2).toNat * 8)).off + 6, none⟩ = some (.int .i64 ((rd_T46 l0 x5_2).f5.f0)) ∧ w'.cell? ⟨(ad123.add ((x5_2).toNat * 8)).block, (ad123.add ((x5_2).toNat * 8)).off + 7, none⟩ = some (.int .i64 ((rd_T46 l0 x5_2).f5.f1)) ∧ w'.cell? (ad123.add ((a1).toNat * 8)) = some (.int .i64 ((rd_T46 l0 a1).f0)) ∧ w'.cell? ⟨(ad123.add ((a1).toNat * 8)).block, (ad123.add ((a1).toNat * 8)).off + 1, none⟩ = some (.int .i64 ((rd_T46 l0 a1).f1)) ∧ w'.cell? ⟨(ad123.add ((a1).toNat * 8)).block, (ad123.add ((a1).toNat * 8)).off + 2, none⟩ = some (.int .i64 ((rd_T46 l0 a1).f2.f0)) ∧ w'.cell? ⟨(ad123.add ((a1).toNat * 8)).block, (ad123.add ((a1).toNat * 8)).off + 3, none⟩ = some (.int .i64 ((rd_T46 l0 a1).f2.f1)) ∧ w'.cell? ⟨(ad123.add ((a1).toNat * 8)).block, (ad123.add ((a1).toNat * 8)).off + 4, none⟩ = some (.int .i64 ((rd_T46 l0 a1).f3)) ∧ w'.cell? ⟨(ad123.add ((a1).toNat * 8)).block, (ad123.add ((a1).toNat * 8)).off + 5, none⟩ = some (.int .i64 ((rd_T46 l0 a1).f4)) ∧ w'.cell? ⟨(ad123.add ((a1).toNat * 8)).block, (ad123.add ((a1).toNat * 8)).off + 6, none⟩ = some (.int .i64 ((rd_T46 l0 a1).f5.f0)) ∧ w'.cell? ⟨(ad123.add ((a1).toNat * 8)).block, (ad123.add ((a1).toNat * 8)).off + 7, none⟩ = some (.int .i64 ((rd_T46 l0 a1).f5.f1)) ∧ w'.cell? (ad123.add ((a1).toNat * 8)) = some (.int .i64 ((rd_T46 l0 a1).f0)) ∧ w'.cell? ⟨(ad123.add ((a1).toNat * 8)).block, (ad123.add ((a1).toNat * 8)).off + 1, none⟩ = some (.int .i64 ((rd_T46 l0 a1).f1)) ∧ w'.cell? ⟨(ad123.add ((a1).toNat * 8)).block, (ad123.add ((a1).toNat * 8)).off + 2, none⟩ = some (.int .i64 ((rd_T46 l0 a1).f2.f0)) ∧ w'.cell? ⟨(ad123.add ((a1).toNat * 8)).block, (ad123.add ((a1).toNat * 8)).off + 3, none⟩ = some (.int .i64 ((rd_T46 l0 a1).f2.f1)) ∧ w'.cell? ⟨(ad123.add ((a1).toNat * 8)).block, (ad123.add ((a1).toNat * 8)).off + 4, none⟩ = some (.int .i64 ((rd_T46 l0 a1).f3)) ∧ w'.cell? ⟨(ad123.add ((a1).toNat * 8)).block, (ad123.add ((a1).toNat * 8)).off + 5, none⟩ = some (.int .i64 ((rd_T46 l0 a1).f4)) ∧ w'.cell? ⟨(ad123.add ((a1).toNat * 8)).block, (ad123.add ((a1).toNat * 8)).off + 6, none⟩ = some (.int .i64 ((rd_T46 l0 a1).f5.f0)) ∧ w'.cell? ⟨(ad123.add ((a1).toNat * 8)).block, (ad123.add ((a1).toNat * 8)).off + 7, none⟩ = some (.int .i64 ((rd_T46 l0 a1).f5.f1)) ∧ w'.cell? (ad123.add ((x5_2).toNat * 8)) = some (.int .i64 ((rd_T46 l0 x5_2).f0)) ∧ w'.cell? ⟨(ad123.add ((x5_2).toNat * 8)).block, (ad123.add ((x5_2).toNat * 8)).off + 1, none⟩ = some (.int .i64 ((rd_T46 l0 x5_2).f1)) ∧ w'.cell? ⟨(ad123.add ((x5_2).toNat * 8)).block, (ad123.add ((x5_2).toNat * 8)).off + 2, none⟩ = some (.int .i64 ((rd_T46 l0 x5_2).f2.f0)) ∧ w'.cell? ⟨(ad123.add ((x5_2).toNat * 8)).block, (ad123.add ((x5_2).toNat * 8)).off + 3, none⟩ = some (.int .i64 ((rd_T46 l0 x5_2).f2.f1)) ∧ w'.cell? ⟨(ad123.add ((x5_2).toNat * 8)).block, (ad123.add ((x5_2).toNat * 8)).off + 4, none⟩ = some (.int .i64 ((rd_T46 l0 x5_2).f3)) ∧ w'.cell? ⟨(ad123.add ((x5_2).toNat * 8)).block, (ad123.add ((x5_2).toNat * 8)).off + 5, none⟩ = some (.int .i64 ((rd_T46 l0 x5_2).f4)) ∧ w'.cell? ⟨(ad123.add ((x5_2).toNat * 8)).block, (ad123.add ((x5_2).toNat * 8)).off + 6, none⟩ = some (.int .i64 ((rd_T46 l0 x5_2).f5.f0)) ∧ w'.cell? ⟨(ad123.add ((x5_2).toNat * 8)).block, (ad123.add ((x5_2).toNat * 8)).off + 7, none⟩ = some (.int .i64 ((rd_T46 l0 x5_2).f5.f1))) (ds := []) #[z,z,z,z,z,z,z,z,z,z,z,z,z,z,z,z,z,z,z,z,z,z,z,z,z,z,z,z,z,z,z,z,z,z,z,z,z,z,z,z,z,z,z,z,z,z,z,z,z,z] (by kernel_rfl) rfl rfl ⟨(hc_ HB hw123_0), (hc_ HB hw123_1), (hc_ HB hw123_2), (hc_ HB hw123_3), (hc_ HB hw123_4), (hc_ HB hw123_5), (hc_ HB hw123_6), (hc_ HB hw123_7), (hc_ HB hw125_0), (hc_ HB hw125_1), (hc_ HB hw125_2), (hc_ HB hw125_3), (hc_ HB hw125_4), (hc_ HB hw125_5), (hc_ HB hw125_6), (hc_ HB hw125_7), (hc_ HB hw126_0), (hc_ HB hw126_1), (hc_ HB hw126_2), (hc_ HB hw126_3), (hc_ HB hw126_4), (hc_ HB hw126_5), (hc_ HB hw126_6), (hc_ HB hw126_7), (hc_ HB hw128_0), (hc_ HB hw128_1), (hc_ HB hw128_2), (hc_ HB hw128_3), (hc_ HB hw128_4), (hc_ HB hw128_5), (hc_ HB hw128_6), (hc_ HB hw128_7), (hc_ HB hw129_0), (hc_ HB hw129_1), (hc_ HB hw129_2), (hc_ HB hw129_3), (hc_ HB hw129_4), (hc_ HB hw129_5), (hc_ HB hw129_6), (hc_ HB hw129_7)⟩ (fun hHeld => ?_); refine with_tabW spec_IsShadowed.tab6 spec_IsShadowed.bits6 (fun HT_ HW_ => ?_)
             generalize wr.drew = w35 at HB hx123_0 hx123_1 hx123_2 hx123_3 hx123_4 hx123_5 hx123_6 hx123_7 hx125_0 hx125_1 hx125_2 hx125_3 hx125_4 hx125_5 hx125_6 hx125_7 hx126_0 hx126_1 hx126_2 hx126_3 hx126_4 hx126_5 hx126_6 hx126_7 hx128_0 hx128_1 hx128_2 hx128_3 hx128_4 hx128_5 hx128_6 hx128_7 hx129_0 hx129_1 hx129_2 hx129_3 hx129_4 hx129_5 hx129_6 hx129_7 hHeld ⊢
             refine pure_ (i := 0) (N := some 26) (v := ?_) (a' := ?_) #[o,z,z,z,z,z,z,z,z,z,z,z,z,z,z,z,z,z,z,z,z,z,z,z,z,z,z,z,z,z,z,z,z,z,z,z,z,z,z,z,z,z,z,z,z,z,z,z,z,z] rfl rfl (any_of HT_.out (by kernel_rfl)) (fun _ _ _ h => h) (Or.inl ⟨by rfl, ?_⟩) ?_ ?_
             rotate_left
             ·intro w'
              go_simp
              with_reducible rfl
             rotate_left
             ·simp only [Act.put, qa, qb, qc, i64_w, i32_w]
              rfl
             refine pure_ (i := 1) (N := some 27) (v := ?_) (a' := ?_) #[o,o,z,z,z,z,z,z,z,z,z,z,z,z,z,z,z,z,z,z,z,z,z,z,z,z,z,z,z,z,z,z,z,z,z,z,z,z,z,z,z,z,z,z,z,z,z,z,z,z] rfl rfl (any_of HT_.out (by kernel_rfl)) (fun _ _ _ h => h) (Or.inl ⟨by rfl, ?_⟩) ?_ ?_
             rotate_left
             ·intro w'
              go_simp
              with_reducible rfl
             rotate_left
             ·simp only [Act.put, qa, qb, qc, i64_w, i32_w]
              rfl
             refine pure_ (i := 2) (N := some 28) (v := ?_) (a' := ?_) #[o,o,o,z,z,z,z,z,z,z,z,z,z,z,z,z,z,z,z,z,z,z,z,z,z,z,z,z,z,z,z,z,z,z,z,z,z,z,z,z,z,z,z,z,z,z,z,z,z,z] rfl rfl (any_of HT_.out (by kernel_rfl)) (fun _ _ _ h => h) (Or.inl ⟨by rfl, ?_⟩) ?_ ?_
             rotate_left
             ·intro w'
              go_simp
              with_reducible rfl
             rotate_left
             ·simp only [Act.put, qa, qb, qc, i64_w, i32_w]
              rfl
             refine take_ (i := 3) (N := some 29) (v := ?_) (a' := ?_) #[o,o,o,o,z,z,z,z,z,z,z,z,z,z,z,z,z,z,z,z,z,z,z,z,z,z,z,z,z,z,z,z,z,z,z,z,z,z,z,z,z,z,z,z,z,z,z,z,z,z] rfl rfl (take_ofW HT_.out HW_.out (by kernel_rfl)) (fun _ _ _ h => h) (Or.inl ⟨by rfl, ?_⟩) hHeld ?_ ?_
             rotate_left
             ·rintro w' ⟨s0, s1, s2, s3, s4, s5, s6, s7, s8, s9, s10, s11, s12, s13, s14, s15, s16, s17, s18, s19, s20, s21, s22, s23, s24, s25, s26, s27, s28, s29, s30, s31, s32, s33, s34, s35, s36, s37, s38, s39⟩
              go_simp
              with_reducible rfl
             rotate_left
             ·simp only [Act.put, qa, qb, qc, i64_w, i32_w]
              rfl
             refine one_ (i := 4) (N := some 30) #[o,o,o,o,o,z,z,z,z,z,z,z,z,z,z,z,z,z,z,z,z,z,z,z,z,z,z,z,z,z,z,z,z,z,z,z,z,z,z,z,z,z,z,z,z,z,z,z,z,z] rfl rfl (one_of HT_.out (by kernel_rfl)) (by decide) (fun K hK => ?_)
             refine goes_ Try.func25 (by kernel_rfl) rfl #[.agg #[.int .i64 ((rd_T46 l0 x5_2).f0), .int .i64 ((rd_T46 l0 x5_2).f1), .int .i64 ((rd_T46 l0 x5_2).f2.f0), .int .i64 ((rd_T46 l0 x5_2).f2.f1), .int .i64 ((rd_T46 l0 x5_2).f3), .int .i64 ((rd_T46 l0 x5_2).f4), .int .i64 ((rd_T46 l0 x5_2).f5.f0), .int .i64 ((rd_T46 l0 x5_2).f5.f1)]] (by rfl) rfl rfl (by (try simp only [List.map_toArray, List.map_cons, List.map_nil]); first | done | rfl | (simp only [List.length_drop, List.length_take]; rfl)) ?_
             with_reducible refine (spec_IsRule.calls ((rd_T46 l0 x5_2).f0) ((rd_T46 l0 x5_2).f1) ((rd_T46 l0 x5_2).f2.f0) ((rd_T46 l0 x5_2).f2.f1) ((rd_T46 l0 x5_2).f3) ((rd_T46 l0 x5_2).f4) ((rd_T46 l0 x5_2).f5.f0) ((rd_T46 l0 x5_2).f5.f1) true _ A13.out).mono ?_
             rintro e w36 ⟨rfl, hb⟩
             refine ⟨_, rfl, ?_⟩
             replace HB := am (below_step (sB HB.out) hb)
             (try clear hb)
             (try clear hb2)
             (try clear hk)
             (try clear hi)
             refine hK.out _ _ ⟨(hc_ HB hw123_0), (hc_ HB hw123_1), (hc_ HB hw123_2), (hc_ HB hw123_3), (hc_ HB hw123_4), (hc_ HB hw123_5), (hc_ HB hw123_6), (hc_ HB hw123_7), (hc_ HB hw125_0), (hc_ HB hw125_1), (hc_ HB hw125_2), (hc_ HB hw125_3), (hc_ HB hw125_4), (hc_ HB hw125_5), (hc_ HB hw125_6), (hc_ HB hw125_7), (hc_ HB hw126_0), (hc_ HB hw126_1), (hc_ HB hw126_2), (hc_ HB hw126_3), (hc_ HB hw126_4), (hc_ HB hw126_5), (hc_ HB hw126_6), (hc_ HB hw126_7), (hc_ HB hw128_0), (hc_ HB hw128_1), (hc_ HB hw128_2), (hc_ HB hw128_3), (hc_ HB hw128_4), (hc_ HB hw128_5), (hc_ HB hw128_6), (hc_ HB hw128_7), (hc_ HB hw129_0), (hc_ HB hw129_1), (hc_ HB hw129_2), (hc_ HB hw129_3), (hc_ HB hw129_4), (hc_ HB hw129_5), (hc_ HB hw129_6), (hc_ HB hw129_7)⟩ (fun hHeld => ?_)
             clear hK K
             refine norm_ (a' := ?_) ?_ ?_
             rotate_left
             ·show Act.put _ (some 30) _ = _
              simp only [Act.put, qa, qb, qc, i64_w, i32_w]
              rfl
             refine pure_ (i := 5) (N := some 31) (v := ?_) (a' := ?_) #[o,o,o,o,o,o,z,z,z,z,z,z,z,z,z,z,z,z,z,z,z,z,z,z,z,z,z,z,z,z,z,z,z,z,z,z,z,z,z,z,z,z,z,z,z,z,z,z,z,z] rfl rfl (any_of HT_.out (by kernel_rfl)) (fun _ _ _ h => h) (Or.inl ⟨by rfl, ?_⟩) ?_ ?_
             rotate_left
             ·intro w'
              go_simp
              with_reducible rfl
             rotate_left
             ·simp only [Act.put, qa, qb, qc, i64_w, i32_w]
              rfl
             refine pure_ (i := 6) (N := some 32) (v := ?_) (a' := ?_) #[o,o,o,o,o,o,o,z,z,z,z,z,z,z,z,z,z,z,z,z,z,z,z,z,z,z,z,z,z,z,z,z,z,z,z,z,z,z,z,z,z,z,z,z,z,z,z,z,z,z] rfl rfl (any_of HT_.out (by kernel_rfl)) (fun _ _ _ h => h) (Or.inl ⟨by rfl, ?_⟩) ?_ ?_
             rotate_left
             ·intro w'
              go_simp
              with_reducible rfl
             rotate_left
             ·simp only [Act.put, qa, qb, qc, i64_w, i32_w]
              rfl
             refine pure_ (i := 7) (N := some 33) (v := ?_) (a' := ?_) #[o,o,o,o,o,o,o,o,z,z,z,z,z,z,z,z,z,z,z,z,z,z,z,z,z,z,z,z,z,z,z,z,z,z,z,z,z,z,z,z,z,z,z,z,z,z,z,z,z,z] rfl rfl (any_of HT_.out (by kernel_rfl)) (fun _ _ _ h => h) (Or.inl ⟨by rfl, ?_⟩) ?_ ?_
             rotate_left
             ·intro w'
              go_simp
              with_reducible rfl
             rotate_left
             ·simp only [Act.put, qa, qb, qc, i64_w, i32_w]
              rfl
             refine pure_ (i := 8) (N := some 34) (v := ?_) (a' := ?_) #[o,o,o,o,o,o,o,o,o,z,z,z,z,z,z,z,z,z,z,z,z,z,z,z,z,z,z,z,z,z,z,z,z,z,z,z,z,z,z,z,z,z,z,z,z,z,z,z,z,z] rfl rfl (any_of HT_.out (by kernel_rfl)) (fun _ _ _ h => h) (Or.inl ⟨by rfl, ?_⟩) ?_ ?_
             rotate_left
             ·intro w'
              go_simp
              with_reducible rfl
             rotate_left
             ·simp only [Act.put, qa, qb, qc, i64_w, i32_w]
              rfl
             refine pure_ (i := 10) (N := some 36) (v := ?_) (a' := ?_) #[o,o,o,o,o,o,o,o,o,z,o,z,z,z,z,z,z,z,z,z,z,z,z,z,z,z,z,z,z,z,z,z,z,z,z,z,z,z,z,z,z,z,z,z,z,z,z,z,z,z] rfl rfl (any_of HT_.out (by kernel_rfl)) (fun _ _ _ h => h) (Or.inl ⟨by rfl, ?_⟩) ?_ ?_
             rotate_left
             ·intro w'
              go_simp
              with_reducible rfl
             rotate_left
             ·simp only [Act.put, qa, qb, qc, i64_w, i32_w]
              rfl
             refine pure_ (i := 11) (N := some 37) (v := ?_) (a' := ?_) #[o,o,o,o,o,o,o,o,o,z,o,o,z,z,z,z,z,z,z,z,z,z,z,z,z,z,z,z,z,z,z,z,z,z,z,z,z,z,z,z,z,z,z,z,z,z,z,z,z,z] rfl rfl (any_of HT_.out (by kernel_rfl)) (fun _ _ _ h => h) (Or.inl ⟨by rfl, ?_⟩) ?_ ?_
             rotate_left
             ·intro w'
              go_simp
              with_reducible rfl
             rotate_left
             ·simp only [Act.put, qa, qb, qc, i64_w, i32_w]
              rfl
             refine pure_ (i := 12) (N := some 38) (v := ?_) (a' := ?_) #[o,o,o,o,o,o,o,o,o,z,o,o,o,z,z,z,z,z,z,z,z,z,z,z,z,z,z,z,z,z,z,z,z,z,z,z,z,z,z,z,z,z,z,z,z,z,z,z,z,z] rfl rfl (any_of HT_.out (by kernel_rfl)) (fun _ _ _ h => h) (Or.inl ⟨by rfl, ?_⟩) ?_ ?_
             rotate_left
             ·intro w'
              go_simp
              with_reducible rfl
             rotate_left
             ·simp only [Act.put, qa, qb, qc, i64_w, i32_w]
              rfl
             refine take_ (i := 9) (N := some 35) (v := ?_) (a' := ?_) #[o,o,o,o,o,o,o,o,o,o,o,o,o,z,z,z,z,z,z,z,z,z,z,z,z,z,z,z,z,z,z,z,z,z,z,z,z,z,z,z,z,z,z,z,z,z,z,z,z,z] rfl rfl (take_ofW HT_.out HW_.out (by kernel_rfl)) (fun _ _ _ h => h) (Or.inl ⟨by rfl, ?_⟩) hHeld ?_ ?_
             rotate_left
             ·rintro w' ⟨s0, s1, s2, s3, s4, s5, s6, s7, s8, s9, s10, s11, s12, s13, s14, s15, s16, s17, s18, s19, s20, s21, s22, s23, s24, s25, s26, s27, s28, s29, s30, s31, s32, s33, s34, s35, s36, s37, s38, s39⟩
              go_simp
              with_reducible rfl
             rotate_left
             ·simp only [Act.put, qa, qb, qc, i64_w, i32_w]
              rfl
             refine take_ (i := 13) (N := some 39) (v := ?_) (a' := ?_) #[o,o,o,o,o,o,o,o,o,o,o,o,o,o,z,z,z,z,z,z,z,z,z,z,z,z,z,z,z,z,z,z,z,z,z,z,z,z,z,z,z,z,z,z,z,z,z,z,z,z] rfl rfl (take_ofW HT_.out HW_.out (by kernel_rfl)) (fun _ _ _ h => h) (Or.inl ⟨by rfl, ?_⟩) hHeld ?_ ?_
             rotate_left
             ·rintro w' ⟨s0, s1, s2, s3, s4, s5, s6, s7, s8, s9, s10, s11, s12, s13, s14, s15, s16, s17, s18, s19, s20, s21, s22, s23, s24, s25, s26, s27, s28, s29, s30, s31, s32, s33, s34, s35, s36, s37, s38, s39⟩
              go_simp
              with_reducible rfl
             rotate_left
             ·simp only [Act.put, qa, qb, qc, i64_w, i32_w]
              rfl
             refine one_ (i := 14) (N := some 40) #[o,o,o,o,o,o,o,o,o,o,o,o,o,o,o,z,z,z,z,z,z,z,z,z,z,z,z,z,z,z,z,z,z,z,z,z,z,z,z,z,z,z,z,z,z,z,z,z,z,z] rfl rfl (one_of HT_.out (by kernel_rfl)) (by decide) (fun K hK => ?_)
             refine goes_ Try.func26 (by kernel_rfl) rfl #[.agg #[.int .i64 ((rd_T46 l0 x5_2).f0), .int .i64 ((rd_T46 l0 x5_2).f1), .int .i64 ((rd_T46 l0 x5_2).f2.f0), .int .i64 ((rd_T46 l0 x5_2).f2.f1), .int .i64 ((rd_T46 l0 x5_2).f3), .int .i64 ((rd_T46 l0 x5_2).f4), .int .i64 ((rd_T46 l0 x5_2).f5.f0), .int .i64 ((rd_T46 l0 x5_2).f5.f1)], .agg #[.int .i64 ((rd_T46 l0 a1).f0), .int .i64 ((rd_T46 l0 a1).f1), .int .i64 ((rd_T46 l0 a1).f2.f0), .int .i64 ((rd_T46 l0 a1).f2.f1), .int .i64 ((rd_T46 l0 a1).f3), .int .i64 ((rd_T46 l0 a1).f4), .int .i64 ((rd_T46 l0 a1).f5.f0), .int .i64 ((rd_T46 l0 a1).f5.f1)]] (by rfl) rfl rfl (by (try simp only [List.map_toArray, List.map_cons, List.map_nil]); first | done | rfl | (simp only [List.length_drop, List.length_take]; rfl)) ?_
             with_reducible refine (spec_IsBefore.calls ((rd_T46 l0 x5_2).f0) ((rd_T46 l0 x5_2).f1) ((rd_T46 l0 x5_2).f2.f0) ((rd_T46 l0 x5_2).f2.f1) ((rd_T46 l0 x5_2).f3) ((rd_T46 l0 x5_2).f4) ((rd_T46 l0 x5_2).f5.f0) ((rd_T46 l0 x5_2).f5.f1) ((rd_T46 l0 a1).f0) ((rd_T46 l0 a1).f1) ((rd_T46 l0 a1).f2.f0) ((rd_T46 l0 a1).f2.f1) ((rd_T46 l0 a1).f3) ((rd_T46 l0 a1).f4) ((rd_T46 l0 a1).f5.f0) ((rd_T46 l0 a1).f5.f1) true _ A17.out).mono ?_
             rintro e w37 ⟨rfl, hb⟩
             refine ⟨_, rfl, ?_⟩
             replace HB := am (below_step (sB HB.out) hb)
             (try clear hb)
             (try clear hb2)
             (try clear hk)
             (try clear hi)
             refine hK.out _ _ ⟨(hc_ HB hw123_0), (hc_ HB hw123_1), (hc_ HB hw123_2), (hc_ HB hw123_3), (hc_ HB hw123_4), (hc_ HB hw123_5), (hc_ HB hw123_6), (hc_ HB hw123_7), (hc_ HB hw125_0), (hc_ HB hw125_1), (hc_ HB hw125_2), (hc_ HB hw125_3), (hc_ HB hw125_4), (hc_ HB hw125_5), (hc_ HB hw125_6), (hc_ HB hw125_7), (hc_ HB hw126_0), (hc_ HB hw126_1), (hc_ HB hw126_2), (hc_ HB hw126_3), (hc_ HB hw126_4), (hc_ HB hw126_5), (hc_ HB hw126_6), (hc_ HB hw126_7), (hc_ HB hw128_0), (hc_ HB hw128_1), (hc_ HB hw128_2), (hc_ HB hw128_3), (hc_ HB hw128_4), (hc_ HB hw128_5), (hc_ HB hw128_6), (hc_ HB hw128_7), (hc_ HB hw129_0), (hc_ HB hw129_1), (hc_ HB hw129_2), (hc_ HB hw129_3), (hc_ HB hw129_4), (hc_ HB hw129_5), (hc_ HB hw129_6), (hc_ HB hw129_7)⟩ (fun hHeld => ?_)
             clear hK K
             refine norm_ (a' := ?_) ?_ ?_
             rotate_left
             ·show Act.put _ (some 40) _ = _
              simp only [Act.put, qa, qb, qc, i64_w, i32_w]
              rfl
             refine pure_ (i := 15) (N := some 41) (v := ?_) (a' := ?_) #[o,o,o,o,o,o,o,o,o,o,o,o,o,o,o,o,z,z,z,z,z,z,z,z,z,z,z,z,z,z,z,z,z,z,z,z,z,z,z,z,z,z,z,z,z,z,z,z,z,z] rfl rfl (any_of HT_.out (by kernel_rfl)) (fun _ _ _ h => h) (Or.inl ⟨by rfl, ?_⟩) ?_ ?_
             rotate_left
             ·intro w'
              go_simp
              with_reducible rfl
             rotate_left
             ·simp only [Act.put, qa, qb, qc, i64_w, i32_w]
              rfl
             refine pure_ (i := 16) (N := some 42) (v := ?_) (a' := ?_) #[o,o,o,o,o,o,o,o,o,o,o,o,o,o,o,o,o,z,z,z,z,z,z,z,z,z,z,z,z,z,z,z,z,z,z,z,z,z,z,z,z,z,z,z,z,z,z,z,z,z] rfl rfl (any_of HT_.out (by kernel_rfl)) (fun _ _ _ h => h) (Or.inl ⟨by rfl, ?_⟩) ?_ ?_
             rotate_left
             ·intro w'
              go_simp
              with_reducible rfl
             rotate_left
             ·simp only [Act.put, qa, qb, qc, i64_w, i32_w]
              rfl
             refine pure_ (i := 17) (N := some 43) (v := ?_) (a' := ?_) #[o,o,o,o,o,o,o,o,o,o,o,o,o,o,o,o,o,o,z,z,z,z,z,z,z,z,z,z,z,z,z,z,z,z,z,z,z,z,z,z,z,z,z,z,z,z,z,z,z,z] rfl rfl (any_of HT_.out (by kernel_rfl)) (fun _ _ _ h => h) (Or.inl ⟨by rfl, ?_⟩) ?_ ?_
             rotate_left
             ·intro w'
              go_simp
              with_reducible rfl
             rotate_left
             ·simp only [Act.put, qa, qb, qc, i64_w, i32_w]
              rfl
             refine pure_ (i := 18) (N := some 44) (v := ?_) (a' := ?_) #[o,o,o,o,o,o,o,o,o,o,o,o,o,o,o,o,o,o,o,z,z,z,z,z,z,z,z,z,z,z,z,z,z,z,z,z,z,z,z,z,z,z,z,z,z,z,z,z,z,z] rfl rfl (any_of HT_.out (by kernel_rfl)) (fun _ _ _ h => h) (Or.inl ⟨by rfl, ?_⟩) ?_ ?_
             rotate_left
             ·intro w'
              go_simp
              with_reducible rfl
             rotate_left
             ·simp only [Act.put, qa, qb, qc, i64_w, i32_w]
              rfl
             refine pure_ (i := 19) (N := some 45) (v := ?_) (a' := ?_) #[o,o,o,o,o,o,o,o,o,o,o,o,o,o,o,o,o,o,o,o,z,z,z,z,z,z,z,z,z,z,z,z,z,z,z,z,z,z,z,z,z,z,z,z,z,z,z,z,z,z] rfl rfl (any_of HT_.out (by kernel_rfl)) (fun _ _ _ h => h) (Or.inl ⟨by rfl, ?_⟩) ?_ ?_
             rotate_left
             ·intro w'
              go_simp
              with_reducible rfl
             rotate_left
             ·simp only [Act.put, qa, qb, qc, i64_w, i32_w]
              rfl
             refine pure_ (i := 20) (N := some 46) (v := ?_) (a' := ?_) #[o,o,o,o,o,o,o,o,o,o,o,o,o,o,o,o,o,o,o,o,o,z,z,z,z,z,z,z,z,z,z,z,z,z,z,z,z,z,z,z,z,z,z,z,z,z,z,z,z,z] rfl rfl (any_of HT_.out (by kernel_rfl)) (fun _ _ _ h => h) (Or.inl ⟨by rfl, ?_⟩) ?_ ?_
             rotate_left
             ·intro w'
              go_simp
              with_reducible rfl
             rotate_left
             ·simp only [Act.put, qa, qb, qc, i64_w, i32_w]
              rfl
             refine pure_ (i := 22) (N := some 48) (v := ?_) (a' := ?_) #[o,o,o,o,o,o,o,o,o,o,o,o,o,o,o,o,o,o,o,o,o,z,o,z,z,z,z,z,z,z,z,z,z,z,z,z,z,z,z,z,z,z,z,z,z,z,z,z,z,z] rfl rfl (any_of HT_.out (by kernel_rfl)) (fun _ _ _ h => h) (Or.inl ⟨by rfl, ?_⟩) ?_ ?_
             rotate_left
             ·intro w'
              go_simp
              with_reducible rfl
             rotate_left
             ·simp only [Act.put, qa, qb, qc, i64_w, i32_w]
              rfl
             refine pure_ (i := 23) (N := some 49) (v := ?_) (a' := ?_) #[o,o,o,o,o,o,o,o,o,o,o,o,o,o,o,o,o,o,o,o,o,z,o,o,z,z,z,z,z,z,z,z,z,z,z,z,z,z,z,z,z,z,z,z,z,z,z,z,z,z] rfl rfl (any_of HT_.out (by kernel_rfl)) (fun _ _ _ h => h) (Or.inl ⟨by rfl, ?_⟩) ?_ ?_
             rotate_left
             ·intro w'
              go_simp
              with_reducible rfl
             rotate_left
             ·simp only [Act.put, qa, qb, qc, i64_w, i32_w]
              rfl
             refine pure_ (i := 24) (N := some 50) (v := ?_) (a' := ?_) #[o,o,o,o,o,o,o,o,o,o,o,o,o,o,o,o,o,o,o,o,o,z,o,o,o,z,z,z,z,z,z,z,z,z,z,z,z,z,z,z,z,z,z,z,z,z,z,z,z,z] rfl rfl (any_of HT_.out (by kernel_rfl)) (fun _ _ _ h => h) (Or.inl ⟨by rfl, ?_⟩) ?_ ?_
             rotate_left
             ·intro w'
              go_simp
              with_reducible rfl
             rotate_left
             ·simp only [Act.put, qa, qb, qc, i64_w, i32_w]
              rfl
             refine pure_ (i := 25) (N := some 51) (v := ?_) (a' := ?_) #[o,o,o,o,o,o,o,o,o,o,o,o,o,o,o,o,o,o,o,o,o,z,o,o,o,o,z,z,z,z,z,z,z,z,z,z,z,z,z,z,z,z,z,z,z,z,z,z,z,z] rfl rfl (any_of HT_.out (by kernel_rfl)) (fun _ _ _ h => h) (Or.inl ⟨by rfl, ?_⟩) ?_ ?_
             rotate_left
             ·intro w'
              go_simp
              with_reducible rfl
             rotate_left
             ·simp only [Act.put, qa, qb, qc, i64_w, i32_w]
              rfl
             refine take_ (i := 21) (N := some 47) (v := ?_) (a' := ?_) #[o,o,o,o,o,o,o,o,o,o,o,o,o,o,o,o,o,o,o,o,o,o,o,o,o,o,z,z,z,z,z,z,z,z,z,z,z,z,z,z,z,z,z,z,z,z,z,z,z,z] rfl rfl (take_ofW HT_.out HW_.out (by kernel_rfl)) (fun _ _ _ h => h) (Or.inl ⟨by rfl, ?_⟩) hHeld ?_ ?_
             rotate_left
             ·rintro w' ⟨s0, s1, s2, s3, s4, s5, s6, s7, s8, s9, s10, s11, s12, s13, s14, s15, s16, s17, s18, s19, s20, s21, s22, s23, s24, s25, s26, s27, s28, s29, s30, s31, s32, s33, s34, s35, s36, s37, s38, s39⟩
              go_simp
              with_reducible rfl
             rotate_left
             ·simp only [Act.put, qa, qb, qc, i64_w, i32_w]
              rfl
             refine take_ (i := 26) (N := some 52) (v := ?_) (a' := ?_) #[o,o,o,o,o,o,o,o,o,o,o,o,o,o,o,o,o,o,o,o,o,o,o,o,o,o,o,z,z,z,z,z,z,z,z,z,z,z,z,z,z,z,z,z,z,z,z,z,z,z] rfl rfl (take_ofW HT_.out HW_.out (by kernel_rfl)) (fun _ _ _ h => h) (Or.inl ⟨by rfl, ?_⟩) hHeld ?_ ?_
             rotate_left
             ·rintro w' ⟨s0, s1, s2, s3, s4, s5, s6, s7, s8, s9, s10, s11, s12, s13, s14, s15, s16, s17, s18, s19, s20, s21, s22, s23, s24, s25, s26, s27, s28, s29, s30, s31, s32, s33, s34, s35, s36, s37, s38, s39⟩
              go_simp
              with_reducible rfl
             rotate_left
             ·simp only [Act.put, qa, qb, qc, i64_w, i32_w]
              rfl
             refine one_ (i := 27) (N := some 53) #[o,o,o,o,o,o,o,o,o,o,o,o,o,o,o,o,o,o,o,o,o,o,o,o,o,o,o,o,z,z,z,z,z,z,z,z,z,z,z,z,z,z,z,z,z,z,z,z,z,z] rfl rfl (one_of HT_.out (by kernel_rfl)) (by decide) (fun K hK => ?_)
             refine goes_ Try.func27 (by kernel_rfl) rfl #[.agg #[.int .i64 ((rd_T46 l0 a1).f2.f0), .int .i64 ((rd_T46 l0 a1).f2.f1)], .agg #[.int .i64 ((rd_T46 l0 x5_2).f2.f0), .int .i64 ((rd_T46 l0 x5_2).f2.f1)]] (by rfl) rfl rfl (by (try simp only [List.map_toArray, List.map_cons, List.map_nil]); first | done | rfl | (simp only [List.length_drop, List.length_take]; rfl)) ?_
             with_reducible refine (spec_IsNarrower.calls ((rd_T46 l0 a1).f2.f0) ((rd_T46 l0 a1).f2.f1) ((rd_T46 l0 x5_2).f2.f0) ((rd_T46 l0 x5_2).f2.f1) false _ A19.out).mono ?_
             rintro e w38 ⟨rfl, hb⟩
             refine ⟨_, rfl, ?_⟩
             replace HB := am (below_step (sB HB.out) hb)
             (try clear hb)
             (try clear hb2)
             (try clear hk)
             (try clear hi)
             refine hK.out _ _ ⟨(hc_ HB hw123_0), (hc_ HB hw123_1), (hc_ HB hw123_2), (hc_ HB hw123_3), (hc_ HB hw123_4), (hc_ HB hw123_5), (hc_ HB hw123_6), (hc_ HB hw123_7), (hc_ HB hw125_0), (hc_ HB hw125_1), (hc_ HB hw125_2), (hc_ HB hw125_3), (hc_ HB hw125_4), (hc_ HB hw125_5), (hc_ HB hw125_6), (hc_ HB hw125_7), (hc_ HB hw126_0), (hc_ HB hw126_1), (hc_ HB hw126_2), (hc_ HB hw126_3), (hc_ HB hw126_4), (hc_ HB hw126_5), (hc_ HB hw126_6), (hc_ HB hw126_7), (hc_ HB hw128_0), (hc_ HB hw128_1), (hc_ HB hw128_2), (hc_ HB hw128_3), (hc_ HB hw128_4), (hc_ HB hw128_5), (hc_ HB hw128_6), (hc_ HB hw128_7), (hc_ HB hw129_0), (hc_ HB hw129_1), (hc_ HB hw129_2), (hc_ HB hw129_3), (hc_ HB hw129_4), (hc_ HB hw129_5), (hc_ HB hw129_6), (hc_ HB hw129_7)⟩ (fun hHeld => ?_)
             clear hK K
             refine norm_ (a' := ?_) ?_ ?_
             rotate_left
             ·show Act.put _ (some 53) _ = _
              simp only [Act.put, qa, qb, qc, i64_w, i32_w]
              rfl
             refine pure_ (i := 28) (N := some 54) (v := ?_) (a' := ?_) #[o,o,o,o,o,o,o,o,o,o,o,o,o,o,o,o,o,o,o,o,o,o,o,o,o,o,o,o,o,z,z,z,z,z,z,z,z,z,z,z,z,z,z,z,z,z,z,z,z,z] rfl rfl (any_of HT_.out (by kernel_rfl)) (fun _ _ _ h => h) (Or.inl ⟨by rfl, ?_⟩) ?_ ?_
             rotate_left
             ·intro w'
              go_simp
              with_reducible rfl
             rotate_left
             ·simp only [Act.put, qa, qb, qc, i64_w, i32_w]
              rfl
             refine pure_ (i := 29) (N := some 55) (v := ?_) (a' := ?_) #[o,o,o,o,o,o,o,o,o,o,o,o,o,o,o,o,o,o,o,o,o,o,o,o,o,o,o,o,o,o,z,z,z,z,z,z,z,z,z,z,z,z,z,z,z,z,z,z,z,z] rfl rfl (any_of HT_.out (by kernel_rfl)) (fun _ _ _ h => h) (Or.inl ⟨by rfl, ?_⟩) ?_ ?_
             rotate_left
             ·intro w'
              go_simp
              with_reducible rfl
             rotate_left
             ·simp only [Act.put, qa, qb, qc, i64_w, i32_w]
              rfl
             refine pure_ (i := 30) (N := some 56) (v := undef) (a' := ?_) #[o,o,o,o,o,o,o,o,o,o,o,o,o,o,o,o,o,o,o,o,o,o,o,o,o,o,o,o,o,o,o,z,z,z,z,z,z,z,z,z,z,z,z,z,z,z,z,z,z,z] rfl rfl (any_of HT_.out (by kernel_rfl)) (fun _ _ _ h => h) (Or.inr ⟨by rfl, rfl⟩) ?_ ?_
             rotate_left
             ·simp only [Act.put, qa, qb, qc, i64_w, i32_w]
              rfl
             refine pure_ (i := 31) (N := some 57) (v := undef) (a' := ?_) #[o,o,o,o,o,o,o,o,o,o,o,o,o,o,o,o,o,o,o,o,o,o,o,o,o,o,o,o,o,o,o,o,z,z,z,z,z,z,z,z,z,z,z,z,z,z,z,z,z,z] rfl rfl (any_of HT_.out (by kernel_rfl)) (fun _ _ _ h => h) (Or.inr ⟨by rfl, rfl⟩) ?_ ?_
             rotate_left
             ·simp only [Act.put, qa, qb, qc, i64_w, i32_w]
              rfl
             refine pure_ (i := 32) (N := some 58) (v := undef) (a' := ?_) #[o,o,o,o,o,o,o,o,o,o,o,o,o,o,o,o,o,o,o,o,o,o,o,o,o,o,o,o,o,o,o,o,o,z,z,z,z,z,z,z,z,z,z,z,z,z,z,z,z,z] rfl rfl (any_of HT_.out (by kernel_rfl)) (fun _ _ _ h => h) (Or.inr ⟨by rfl, rfl⟩) ?_ ?_
             rotate_left
             ·simp only [Act.put, qa, qb, qc, i64_w, i32_w]
              rfl
             refine pure_ (i := 33) (N := some 59) (v := undef) (a' := ?_) #[o,o,o,o,o,o,o,o,o,o,o,o,o,o,o,o,o,o,o,o,o,o,o,o,o,o,o,o,o,o,o,o,o,o,z,z,z,z,z,z,z,z,z,z,z,z,z,z,z,z] rfl rfl (any_of HT_.out (by kernel_rfl)) (fun _ _ _ h => h) (Or.inr ⟨by rfl, rfl⟩) ?_ ?_
             rotate_left
             ·simp only [Act.put, qa, qb, qc, i64_w, i32_w]
              rfl
             refine pure_ (i := 34) (N := some 60) (v := undef) (a' := ?_) #[o,o,o,o,o,o,o,o,o,o,o,o,o,o,o,o,o,o,o,o,o,o,o,o,o,o,o,o,o,o,o,o,o,o,o,z,z,z,z,z,z,z,z,z,z,z,z,z,z,z] rfl rfl (any_of HT_.out (by kernel_rfl)) (fun _ _ _ h => h) (Or.inr ⟨by rfl, rfl⟩) ?_ ?_
             rotate_left
             ·simp only [Act.put, qa, qb, qc, i64_w, i32_w]
              rfl
             refine pure_ (i := 35) (N := some 61) (v := undef) (a' := ?_) #[o,o,o,o,o,o,o,o,o,o,o,o,o,o,o,o,o,o,o,o,o,o,o,o,o,o,o,o,o,o,o,o,o,o,o,o,z,z,z,z,z,z,z,z,z,z,z,z,z,z] rfl rfl (any_of HT_.out (by kernel_rfl)) (fun _ _ _ h => h) (Or.inr ⟨by rfl, rfl⟩) ?_ ?_
             rotate_left
             ·simp only [Act.put, qa, qb, qc, i64_w, i32_w]
              rfl
             refine pure_ (i := 36) (N := some 62) (v := undef) (a' := ?_) #[o,o,o,o,o,o,o,o,o,o,o,o,o,o,o,o,o,o,o,o,o,o,o,o,o,o,o,o,o,o,o,o,o,o,o,o,o,z,z,z,z,z,z,z,z,z,z,z,z,z] rfl rfl (any_of HT_.out (by kernel_rfl)) (fun _ _ _ h => h) (Or.inr ⟨by rfl, rfl⟩) ?_ ?_
             rotate_left
             ·simp only [Act.put, qa, qb, qc, i64_w, i32_w]
              rfl
             refine pure_ (i := 37) (N := some 63) (v := undef) (a' := ?_) #[o,o,o,o,o,o,o,o,o,o,o,o,o,o,o,o,o,o,o,o,o,o,o,o,o,o,o,o,o,o,o,o,o,o,o,o,o,o,z,z,z,z,z,z,z,z,z,z,z,z] rfl rfl (any_of HT_.out (by kernel_rfl)) (fun _ _ _ h => h) (Or.inr ⟨by rfl, rfl⟩) ?_ ?_
             rotate_left
             ·simp only [Act.put, qa, qb, qc, i64_w, i32_w]
              rfl
             refine pure_ (i := 38) (N := some 64) (v := undef) (a' := ?_) #[o,o,o,o,o,o,o,o,o,o,o,o,o,o,o,o,o,o,o,o,o,o,o,o,o,o,o,o,o,o,o,o,o,o,o,o,o,o,o,z,z,z,z,z,z,z,z,z,z,z] rfl rfl (any_of HT_.out (by kernel_rfl)) (fun _ _ _ h => h) (Or.inr ⟨by rfl, rfl⟩) ?_ ?_
             rotate_left
             ·simp only [Act.put, qa, qb, qc, i64_w, i32_w]
              rfl
             refine pure_ (i := 39) (N := some 65) (v := undef) (a' := ?_) #[o,o,o,o,o,o,o,o,o,o,o,o,o,o,o,o,o,o,o,o,o,o,o,o,o,o,o,o,o,o,o,o,o,o,o,o,o,o,o,o,z,z,z,z,z,z,z,z,z,z] rfl rfl (any_of HT_.out (by kernel_rfl)) (fun _ _ _ h => h) (Or.inr ⟨by rfl, rfl⟩) ?_ ?_
             rotate_left
             ·simp only [Act.put, qa, qb, qc, i64_w, i32_w]
              rfl
             refine pure_ (i := 40) (N := some 66) (v := undef) (a' := ?_) #[o,o,o,o,o,o,o,o,o,o,o,o,o,o,o,o,o,o,o,o,o,o,o,o,o,o,o,o,o,o,o,o,o,o,o,o,o,o,o,o,o,z,z,z,z,z,z,z,z,z] rfl rfl (any_of HT_.out (by kernel_rfl)) (fun _ _ _ h => h) (Or.inr ⟨by rfl, rfl⟩) ?_ ?_
             rotate_left
             ·simp only [Act.put, qa, qb, qc, i64_w, i32_w]
              rfl
             refine pure_ (i := 41) (N := some 67) (v := undef) (a' := ?_) #[o,o,o,o,o,o,o,o,o,o,o,o,o,o,o,o,o,o,o,o,o,o,o,o,o,o,o,o,o,o,o,o,o,o,o,o,o,o,o,o,o,o,z,z,z,z,z,z,z,z] rfl rfl (any_of HT_.out (by kernel_rfl)) (fun _ _ _ h => h) (Or.inr ⟨by rfl, rfl⟩) ?_ ?_
             rotate_left
             ·simp only [Act.put, qa, qb, qc, i64_w, i32_w]
              rfl
             refine pure_ (i := 42) (N := some 68) (v := undef) (a' := ?_) #[o,o,o,o,o,o,o,o,o,o,o,o,o,o,o,o,o,o,o,o,o,o,o,o,o,o,o,o,o,o,o,o,o,o,o,o,o,o,o,o,o,o,o,z,z,z,z,z,z,z] rfl rfl (any_of HT_.out (by kernel_rfl)) (fun _ _ _ h => h) (Or.inr ⟨by rfl, rfl⟩) ?_ ?_
             rotate_left
             ·simp only [Act.put, qa, qb, qc, i64_w, i32_w]
              rfl
             refine pure_ (i := 43) (N := some 69) (v := undef) (a' := ?_) #[o,o,o,o,o,o,o,o,o,o,o,o,o,o,o,o,o,o,o,o,o,o,o,o,o,o,o,o,o,o,o,o,o,o,o,o,o,o,o,o,o,o,o,o,z,z,z,z,z,z] rfl rfl (any_of HT_.out (by kernel_rfl)) (fun _ _ _ h => h) (Or.inr ⟨by rfl, rfl⟩) ?_ ?_
             rotate_left
             ·simp only [Act.put, qa, qb, qc, i64_w, i32_w]
              rfl
             refine pure_ (i := 44) (N := some 70) (v := undef) (a' := ?_) #[o,o,o,o,o,o,o,o,o,o,o,o,o,o,o,o,o,o,o,o,o,o,o,o,o,o,o,o,o,o,o,o,o,o,o,o,o,o,o,o,o,o,o,o,o,z,z,z,z,z] rfl rfl (any_of HT_.out (by kernel_rfl)) (fun _ _ _ h => h) (Or.inr ⟨by rfl, rfl⟩) ?_ ?_
             rotate_left
             ·simp only [Act.put, qa, qb, qc, i64_w, i32_w]
              rfl
             refine pure_ (i := 45) (N := some 71) (v := undef) (a' := ?_) #[o,o,o,o,o,o,o,o,o,o,o,o,o,o,o,o,o,o,o,o,o,o,o,o,o,o,o,o,o,o,o,o,o,o,o,o,o,o,o,o,o,o,o,o,o,o,z,z,z,z] rfl rfl (any_of HT_.out (by kernel_rfl)) (fun _ _ _ h => h) (Or.inr ⟨by rfl, rfl⟩) ?_ ?_
             rotate_left
             ·simp only [Act.put, qa, qb, qc, i64_w, i32_w]
              rfl
             refine pure_ (i := 46) (N := some 72) (v := undef) (a' := ?_) #[o,o,o,o,o,o,o,o,o,o,o,o,o,o,o,o,o,o,o,o,o,o,o,o,o,o,o,o,o,o,o,o,o,o,o,o,o,o,o,o,o,o,o,o,o,o,o,z,z,z] rfl rfl (any_of HT_.out (by kernel_rfl)) (fun _ _ _ h => h) (Or.inr ⟨by rfl, rfl⟩) ?_ ?_
             rotate_left
             ·simp only [Act.put, qa, qb, qc, i64_w, i32_w]
              rfl
             refine pure_ (i := 47) (N := some 73) (v := undef) (a' := ?_) #[o,o,o,o,o,o,o,o,o,o,o,o,o,o,o,o,o,o,o,o,o,o,o,o,o,o,o,o,o,o,o,o,o,o,o,o,o,o,o,o,o,o,o,o,o,o,o,o,z,z] rfl rfl (any_of HT_.out (by kernel_rfl)) (fun _ _ _ h => h) (Or.inr ⟨by rfl, rfl⟩) ?_ ?_
             rotate_left
             ·simp only [Act.put, qa, qb, qc, i64_w, i32_w]
              rfl
             refine pure_ (i := 48) (N := some 74) (v := undef) (a' := ?_) #[o,o,o,o,o,o,o,o,o,o,o,o,o,o,o,o,o,o,o,o,o,o,o,o,o,o,o,o,o,o,o,o,o,o,o,o,o,o,o,o,o,o,o,o,o,o,o,o,o,z] rfl rfl (any_of HT_.out (by kernel_rfl)) (fun _ _ _ h => h) (Or.inr ⟨by rfl, rfl⟩) ?_ ?_
             rotate_left
             ·simp only [Act.put, qa, qb, qc, i64_w, i32_w]
              rfl
             refine pure_ (i := 49) (N := some 75) (v := ?_) (a' := ?_) #[o,o,o,o,o,o,o,o,o,o,o,o,o,o,o,o,o,o,o,o,o,o,o,o,o,o,o,o,o,o,o,o,o,o,o,o,o,o,o,o,o,o,o,o,o,o,o,o,o,o] rfl rfl (any_of HT_.out (by kernel_rfl)) (fun _ _ _ h => h) (Or.inl ⟨by rfl, ?_⟩) ?_ ?_
             rotate_left
             ·intro w'
              go_simp
              with_reducible rfl
             rotate_left
             ·simp only [Act.put, qa, qb, qc, i64_w, i32_w]
              rfl
             refine done_ (done_of HT_.out (by kernel_rfl)) ?_
             try go_wp2
             go_roundg k2
             case measure => have := HJ2.out; have := HK2.out; omega
             case rel => exact ⟨(wrap64 (x5_2 + 1)), (by first | rfl | (simp; done) | (simp [*]; done)), H', ⟨by have := HJ2.out; have := HK2.out; omega⟩, ⟨sB HB.out⟩⟩
           ·replace c18 := Bool.eq_false_iff.mpr c18
            subst c18
            have H1 : (spec_IsShadowed.l0 k2 l0 a1 (wrap64 (x5_2 + 1))) = some r := by rw [if_neg (show ¬ (false = true) by decide)] at H; exact H
            clear H
            have H := H1
            clear H1
            have H' := Aside0.mk H
            clear H
            try go_wp2
            replace HB := am (below_drew1 HB.out)
            have p123 : 0 ≤ (x5_2 : Int) := of_decide_eq_true (by first | (with_reducible assumption) | assumption)
            have q123 : x5_2 < (l0.length : Int) := of_decide_eq_true (by first | (with_reducible assumption) | assumption)
            obtain ⟨ad123, e123, hx123_0, hx123_1, hx123_2, hx123_3, hx123_4, hx123_5, hx123_6, hx123_7⟩ := at_T46 HR0.out x5_2 p123 q123
            have hw123_7 := hx123_7
            have hw123_6 := hx123_6
            have hw123_5 := hx123_5
            have hw123_4 := hx123_4
            have hw123_3 := hx123_3
            have hw123_2 := hx123_2
            have hw123_1 := hx123_1
            have hw123_0 := hx123_0
            cases e123
            replace hx123_0 := hc_ HB hx123_0
            replace hx123_1 := hc_ HB hx123_1
            replace hx123_2 := hc_ HB hx123_2
            replace hx123_3 := hc_ HB hx123_3
            replace hx123_4 := hc_ HB hx123_4
            replace hx123_5 := hc_ HB hx123_5
            replace hx123_6 := hc_ HB hx123_6
            replace hx123_7 := hc_ HB hx123_7
            replace p123 := eq_true p123
            replace q123 := eq_true q123
            have p125 : 0 ≤ (x5_2 : Int) := of_decide_eq_true (by first | (with_reducible assumption) | assumption)
            have q125 : x5_2 < (l0.length : Int) := of_decide_eq_true (by first | (with_reducible assumption) | assumption)
            obtain ⟨ad125, e125, hx125_0, hx125_1, hx125_2, hx125_3, hx125_4, hx125_5, hx125_6, hx125_7⟩ := at_T46 HR0.out x5_2 p125 q125
            have hw125_7 := hx125_7
            have hw125_6 := hx125_6
            have hw125_5 := hx125_5
            have hw125_4 := hx125_4
            have hw125_3 := hx125_3
            have hw125_2 := hx125_2
            have hw125_1 := hx125_1
            have hw125_0 := hx125_0
            obtain rfl : ad123 = ad125 := (by injection e125)
            replace hx125_0 := hc_ HB hx125_0
            replace hx125_1 := hc_ HB hx125_1
            replace hx125_2 := hc_ HB hx125_2
            replace hx125_3 := hc_ HB hx125_3
            replace hx125_4 := hc_ HB hx125_4
            replace hx125_5 := hc_ HB hx125_5
            replace hx125_6 := hc_ HB hx125_6
            replace hx125_7 := hc_ HB hx125_7
            replace p125 := eq_true p125
            replace q125 := eq_true q125
            have p126 : 0 ≤ (a1 : Int) := of_decide_eq_true (by first | (with_reducible assumption) | assumption)
            have q126 : a1 < (l0.length : Int) := of_decide_eq_true (by first | (with_reducible assumption) | assumption)
            obtain ⟨ad126, e126, hx126_0, hx126_1, hx126_2, hx126_3, hx126_4, hx126_5, hx126_6, hx126_7⟩ := at_T46 HR0.out a1 p126 q126
            have hw126_7 := hx126_7
            have hw126_6 := hx126_6
            have hw126_5 := hx126_5
            have hw126_4 := hx126_4
            have hw126_3 := hx126_3
            have hw126_2 := hx126_2
            have hw126_1 := hx126_1
            have hw126_0 := hx126_0
            obtain rfl : ad123 = ad126 := (by injection e126)
            replace hx126_0 := hc_ HB hx126_0
            replace hx126_1 := hc_ HB hx126_1
            replace hx126_2 := hc_ HB hx126_2
            replace hx126_3 := hc_ HB hx126_3
            replace hx126_4 := hc_ HB hx126_4
            replace hx126_5 := hc_ HB hx126_5
            replace hx126_6 := hc_ HB hx126_6
            replace hx126_7 := hc_ HB hx126_7
            replace p126 := eq_true p126
            replace q126 := eq_true q126
            refine start_ (n := 50) (S := fun w' => w'.cell? (ad123.add ((x5_2).toNat * 8)) = some (.int .i64 ((rd_T46 l0 x5_2).f0)) ∧ w'.cell? ⟨(ad123.add ((x5_2).toNat * 8)).block, (ad123.add ((x5_2).toNat * 8)).off + 1, none⟩ = some (.int .i64 ((rd_T46 l0 x5_2).f1)) ∧ w'.cell? ⟨(ad123.add ((x5_2).toNat * 8)).block, (ad123.add ((x5_2).toNat * 8)).off + 2, none⟩ = some (.int .i64 ((rd_T46 l0 x5_2).f2.f0)) ∧ w'.cell? ⟨(ad123.add ((x5_2).toNat * 8)).block, (ad123.add ((x5_2).toNat * 8)).off + 3, none⟩ = some (.int .i64 ((rd_T46 l0 x5_2).f2.f1)) ∧ w'.cell? ⟨(ad123.add ((x5_2).toNat * 8)).block, (ad123.add ((x5_2).toNat * 8)).off + 4, none⟩ = some (.int .i64 ((rd_T46 l0 x5_2).f3)) ∧ w'.cell? ⟨(ad123.add ((x5_2).toNat * 8)).block, (ad123.add ((x5_2).toNat * 8)).off + 5, none⟩ = some (.int .i64 ((rd_T46 l0 x5_2).f4)) ∧ w'.cell? ⟨(ad123.add ((x5_2).toNat * 8)).block, (ad123.add ((x5_2).toNat * 8)).off + 6, none⟩ = some (.int .i64 ((rd_T46 l0 x5_2).f5.f0)) ∧ w'.cell? ⟨(ad123.add ((x5_2).toNat * 8)).block, (ad123.add ((x5_2).toNat * 8)).off + 7, none⟩ = some (.int .i64 ((rd_T46 l0 x5_2).f5.f1)) ∧ w'.cell? (ad123.add ((x5_2).toNat * 8)) = some (.int .i64 ((rd_T46 l0 x5_2).f0)) ∧ w'.cell? ⟨(ad123.add ((x5_2).toNat * 8)).block, (ad123.add ((x5_2).toNat * 8)).off + 1, none⟩ = some (.int .i64 ((rd_T46 l0 x5_2).f1)) ∧ w'.cell? ⟨(ad123.add ((x5_2).toNat * 8)).block, (ad123.add ((x5_2).toNat * 8)).off + 2, none⟩ = some (.int .i64 ((rd_T46 l0 x5_2).f2.f0)) ∧ w'.cell? ⟨(ad123.add ((x5_2).toNat * 8)).block, (ad123.add ((x5_2).toNat * 8)).off + 3, none⟩ = some (.int .i64 ((rd_T46 l0 x5_2).f2.f1)) ∧ w'.cell? ⟨(ad123.add ((x5_2).toNat * 8)).block, (ad123.add ((x5_2).toNat * 8)).off + 4, none⟩ = some (.int .i64 ((rd_T46 l0 x5_2).f3)) ∧ w'.cell? ⟨(ad123.add ((x5_2).toNat * 8)).block, (ad123.add ((x5_2).toNat * 8)).off + 5, none⟩ = some (.int .i64 ((rd_T46 l0 x5_2).f4)) ∧ w'.cell? ⟨(ad123.add ((x5_2).toNat * 8)).block, (ad123.add ((x5_2).toNat * 8)).off + 6, none⟩ = some (.int .i64 ((rd_T46 l0 x5_2).f5.f0)) ∧ w'.cell? ⟨(ad123.add ((x5_2).toNat * 8)).block, (ad123.add ((x5_2).toNat * 8)).off + 7, none⟩ = some (.int .i64 ((rd_T46 l0 x5_2).f5.f1)) ∧ w'.cell? (ad123.add ((a1).toNat * 8)) = some (.int .i64 ((rd_T46 l0 a1).f0)) ∧ w'.cell? ⟨(ad123.add ((a1).toNat * 8)).block, (ad123.add ((a1).toNat * 8)).off + 1, none⟩ = some (.int .i64 ((rd_T46 l0 a1).f1)) ∧ w'.cell? ⟨(ad123.add ((a1).toNat * 8)).block, (ad123.add ((a1).toNat * 8)).off + 2, none⟩ = some (.int .i64 ((rd_T46 l0 a1).f2.f0)) ∧ w'.cell? ⟨(ad123.add ((a1).toNat * 8)).block, (ad123.add ((a1).toNat * 8)).off + 3, none⟩ = some (.int .i64 ((rd_T46 l0 a1).f2.f1)) ∧ w'.cell? ⟨(ad123.add ((a1).toNat * 8)).block, (ad123.add ((a1).toNat * 8)).off + 4, none⟩ = some (.int .i64 ((rd_T46 l0 a1).f3)) ∧ w'.cell? ⟨(ad123.add ((a1).toNat * 8)).block, (ad123.add ((a1).toNat * 8)).off + 5, none⟩ = some (.int .i64 ((rd_T46 l0 a1).f4)) ∧ w'.cell? ⟨(ad123.add ((a1).toNat * 8)).block, (ad123.add ((a1).toNat * 8)).off + 6, none⟩ = some (.int .i64 ((rd_T46 l0 a1).f5.f0)) ∧ w'.cell? ⟨(ad123.add ((a1).toNat * 8)).block, (ad123.add ((a1).toNat * 8)).off + 7, none⟩ = some (.int .i64 ((rd_T46 l0 a1).f5.f1))) (ds := []) #[z,z,z,z,z,z,z,z,z,z,z,z,z,z,z,z,z,z,z,z,z,z,z,z,z,z,z,z,z,z,z,z,z,z,z,z,z,z,z,z,z,z,z,z,z,z,z,z,z,z] (by kernel_rfl) rfl rfl ⟨(hc_ HB hw123_0), (hc_ HB hw123_1), (hc_ HB hw123_2), (hc_ HB hw123_3), (hc_ HB hw123_4), (hc_ HB hw123_5), (hc_ HB hw123_6), (hc_ HB hw123_7), (hc_ HB hw125_0), (hc_ HB hw125_1), (hc_ HB hw125_2), (hc_ HB hw125_3), (hc_ HB hw125_4), (hc_ HB hw125_5), (hc_ HB hw125_6), (hc_ HB hw125_7), (hc_ HB hw126_0), (hc_ HB hw126_1), (hc_ HB hw126_2), (hc_ HB hw126_3), (hc_ HB hw126_4), (hc_ HB hw126_5), (hc_ HB hw126_6), (hc_ HB hw126_7)⟩ (fun hHeld => ?_); refine with_tabW spec_IsShadowed.tab6 spec_IsShadowed.bits6 (fun HT_ HW_ => ?_)
            generalize wr.drew = w39 at HB hx123_0 hx123_1 hx123_2 hx123_3 hx123_4 hx123_5 hx123_6 hx123_7 hx125_0 hx125_1 hx125_2 hx125_3 hx125_4 hx125_5 hx125_6 hx125_7 hx126_0 hx126_1 hx126_2 hx126_3 hx126_4 hx126_5 hx126_6 hx126_7 hHeld ⊢
            refine pure_ (i := 0) (N := some 26) (v := ?_) (a' := ?_) #[o,z,z,z,z,z,z,z,z,z,z,z,z,z,z,z,z,z,z,z,z,z,z,z,z,z,z,z,z,z,z,z,z,z,z,z,z,z,z,z,z,z,z,z,z,z,z,z,z,z] rfl rfl (any_of HT_.out (by kernel_rfl)) (fun _ _ _ h => h) (Or.inl ⟨by rfl, ?_⟩) ?_ ?_
            rotate_left
            ·intro w'
             go_simp
             with_reducible rfl
            rotate_left
            ·simp only [Act.put, qa, qb, qc, i64_w, i32_w]
             rfl
            refine pure_ (i := 1) (N := some 27) (v := ?_) (a' := ?_) #[o,o,z,z,z,z,z,z,z,z,z,z,z,z,z,z,z,z,z,z,z,z,z,z,z,z,z,z,z,z,z,z,z,z,z,z,z,z,z,z,z,z,z,z,z,z,z,z,z,z] rfl rfl (any_of HT_.out (by kernel_rfl)) (fun _ _ _ h => h) (Or.inl ⟨by rfl, ?_⟩) ?_ ?_
            rotate_left
            ·intro w'
             go_simp
             with_reducible rfl
            rotate_left
            ·simp only [Act.put, qa, qb, qc, i64_w, i32_w]
             rfl
            refine pure_ (i := 2) (N := some 28) (v := ?_) (a' := ?_) #[o,o,o,z,z,z,z,z,z,z,z,z,z,z,z,z,z,z,z,z,z,z,z,z,z,z,z,z,z,z,z,z,z,z,z,z,z,z,z,z,z,z,z,z,z,z,z,z,z,z] rfl rfl (any_of HT_.out (by kernel_rfl)) (fun _ _ _ h => h) (Or.inl ⟨by rfl, ?_⟩) ?_ ?_
            rotate_left
            ·intro w'
             go_simp
             with_reducible rfl
            rotate_left
            ·simp only [Act.put, qa, qb, qc, i64_w, i32_w]
             rfl
            refine take_ (i := 3) (N := some 29) (v := ?_) (a' := ?_) #[o,o,o,o,z,z,z,z,z,z,z,z,z,z,z,z,z,z,z,z,z,z,z,z,z,z,z,z,z,z,z,z,z,z,z,z,z,z,z,z,z,z,z,z,z,z,z,z,z,z] rfl rfl (take_ofW HT_.out HW_.out (by kernel_rfl)) (fun _ _ _ h => h) (Or.inl ⟨by rfl, ?_⟩) hHeld ?_ ?_
            rotate_left
            ·rintro w' ⟨s0, s1, s2, s3, s4, s5, s6, s7, s8, s9, s10, s11, s12, s13, s14, s15, s16, s17, s18, s19, s20, s21, s22, s23⟩
             go_simp
             with_reducible rfl
            rotate_left
            ·simp only [Act.put, qa, qb, qc, i64_w, i32_w]
             rfl
            refine one_ (i := 4) (N := some 30) #[o,o,o,o,o,z,z,z,z,z,z,z,z,z,z,z,z,z,z,z,z,z,z,z,z,z,z,z,z,z,z,z,z,z,z,z,z,z,z,z,z,z,z,z,z,z,z,z,z,z] rfl rfl (one_of HT_.out (by kernel_rfl)) (by decide) (fun K hK => ?_)
            refine goes_ Try.func25 (by kernel_rfl) rfl #[.agg #[.int .i64 ((rd_T46 l0 x5_2).f0), .int .i64 ((rd_T46 l0 x5_2).f1), .int .i64 ((rd_T46 l0 x5_2).f2.f0), .int .i64 ((rd_T46 l0 x5_2).f2.f1), .int .i64 ((rd_T46 l0 x5_2).f3), .int .i64 ((rd_T46 l0 x5_2).f4), .int .i64 ((rd_T46 l0 x5_2).f5.f0), .int .i64 ((rd_T46 l0 x5_2).f5.f1)]] (by rfl) rfl rfl (by (try simp only [List.map_toArray, List.map_cons, List.map_nil]); first | done | rfl | (simp only [List.length_drop, List.length_take]; rfl)) ?_
            with_reducible refine (spec_IsRule.calls ((rd_T46 l0 x5_2).f0) ((rd_T46 l0 x5_2).f1) ((rd_T46 l0 x5_2).f2.f0) ((rd_T46 l0 x5_2).f2.f1) ((rd_T46 l0 x5_2).f3) ((rd_T46 l0 x5_2).f4) ((rd_T46 l0 x5_2).f5.f0) ((rd_T46 l0 x5_2).f5.f1) true _ A13.out).mono ?_
            rintro e w40 ⟨rfl, hb⟩
            refine ⟨_, rfl, ?_⟩
            replace HB := am (below_step (sB HB.out) hb)
            (try clear hb)
            (try clear hb2)
            (try clear hk)
            (try clear hi)
            refine hK.out _ _ ⟨(hc_ HB hw123_0), (hc_ HB hw123_1), (hc_ HB hw123_2), (hc_ HB hw123_3), (hc_ HB hw123_4), (hc_ HB hw123_5), (hc_ HB hw123_6), (hc_ HB hw123_7), (hc_ HB hw125_0), (hc_ HB hw125_1), (hc_ HB hw125_2), (hc_ HB hw125_3), (hc_ HB hw125_4), (hc_ HB hw125_5), (hc_ HB hw125_6), (hc_ HB hw125_7), (hc_ HB hw126_0), (hc_ HB hw126_1), (hc_ HB hw126_2), (hc_ HB hw126_3), (hc_ HB hw126_4), (hc_ HB hw126_5), (hc_ HB hw126_6), (hc_ HB hw126_7)⟩ (fun hHeld => ?_)
            clear hK K
            refine norm_ (a' := ?_) ?_ ?_
            rotate_left
            ·show Act.put _ (some 30) _ = _
             simp only [Act.put, qa, qb, qc, i64_w, i32_w]
             rfl
            refine pure_ (i := 5) (N := some 31) (v := ?_) (a' := ?_) #[o,o,o,o,o,o,z,z,z,z,z,z,z,z,z,z,z,z,z,z,z,z,z,z,z,z,z,z,z,z,z,z,z,z,z,z,z,z,z,z,z,z,z,z,z,z,z,z,z,z] rfl rfl (any_of HT_.out (by kernel_rfl)) (fun _ _ _ h => h) (Or.inl ⟨by rfl, ?_⟩) ?_ ?_
            rotate_left
            ·intro w'
             go_simp
             with_reducible rfl
            rotate_left
            ·simp only [Act.put, qa, qb, qc, i64_w, i32_w]
             rfl
            refine pure_ (i := 6) (N := some 32) (v := ?_) (a' := ?_) #[o,o,o,o,o,o,o,z,z,z,z,z,z,z,z,z,z,z,z,z,z,z,z,z,z,z,z,z,z,z,z,z,z,z,z,z,z,z,z,z,z,z,z,z,z,z,z,z,z,z] rfl rfl (any_of HT_.out (by kernel_rfl)) (fun _ _ _ h => h) (Or.inl ⟨by rfl, ?_⟩) ?_ ?_
            rotate_left
            ·intro w'
             go_simp
             with_reducible rfl
            rotate_left
            ·simp only [Act.put, qa, qb, qc, i64_w, i32_w]
             rfl
            refine pure_ (i := 7) (N := some 33) (v := ?_) (a' := ?_) #[o,o,o,o,o,o,o,o,z,z,z,z,z,z,z,z,z,z,z,z,z,z,z,z,z,z,z,z,z,z,z,z,z,z,z,z,z,z,z,z,z,z,z,z,z,z,z,z,z,z] rfl rfl (any_of HT_.out (by kernel_rfl)) (fun _ _ _ h => h) (Or.inl ⟨by rfl, ?_⟩) ?_ ?_
            rotate_left
            ·intro w'
             go_simp
             with_reducible rfl
            rotate_left
            ·simp only [Act.put, qa, qb, qc, i64_w, i32_w]
             rfl
            refine pure_ (i := 8) (N := some 34) (v := ?_) (a' := ?_) #[o,o,o,o,o,o,o,o,o,z,z,z,z,z,z,z,z,z,z,z,z,z,z,z,z,z,z,z,z,z,z,z,z,z,z,z,z,z,z,z,z,z,z,z,z,z,z,z,z,z] rfl rfl (any_of HT_.out (by kernel_rfl)) (fun _ _ _ h => h) (Or.inl ⟨by rfl, ?_⟩) ?_ ?_
            rotate_left
            ·intro w'
             go_simp
             with_reducible rfl
            rotate_left
            ·simp only [Act.put, qa, qb, qc, i64_w, i32_w]
             rfl
            refine pure_ (i := 10) (N := some 36) (v := ?_) (a' := ?_) #[o,o,o,o,o,o,o,o,o,z,o,z,z,z,z,z,z,z,z,z,z,z,z,z,z,z,z,z,z,z,z,z,z,z,z,z,z,z,z,z,z,z,z,z,z,z,z,z,z,z] rfl rfl (any_of HT_.out (by kernel_rfl)) (fun _ _ _ h => h) (Or.inl ⟨by rfl, ?_⟩) ?_ ?_
            rotate_left
            ·intro w'
             go_simp
             with_reducible rfl
            rotate_left
            ·simp only [Act.put, qa, qb, qc, i64_w, i32_w]
             rfl
            refine pure_ (i := 11) (N := some 37) (v := ?_) (a' := ?_) #[o,o,o,o,o,o,o,o,o,z,o,o,z,z,z,z,z,z,z,z,z,z,z,z,z,z,z,z,z,z,z,z,z,z,z,z,z,z,z,z,z,z,z,z,z,z,z,z,z,z] rfl rfl (any_of HT_.out (by kernel_rfl)) (fun _ _ _ h => h) (Or.inl ⟨by rfl, ?_⟩) ?_ ?_
            rotate_left
            ·intro w'
             go_simp
             with_reducible rfl
            rotate_left
            ·simp only [Act.put, qa, qb, qc, i64_w, i32_w]
             rfl
            refine pure_ (i := 12) (N := some 38) (v := ?_) (a' := ?_) #[o,o,o,o,o,o,o,o,o,z,o,o,o,z,z,z,z,z,z,z,z,z,z,z,z,z,z,z,z,z,z,z,z,z,z,z,z,z,z,z,z,z,z,z,z,z,z,z,z,z] rfl rfl (any_of HT_.out (by kernel_rfl)) (fun _ _ _ h => h) (Or.inl ⟨by rfl, ?_⟩) ?_ ?_
            rotate_left
            ·intro w'
             go_simp
             with_reducible rfl
            rotate_left
            ·simp only [Act.put, qa, qb, qc, i64_w, i32_w]
             rfl
            refine take_ (i := 9) (N := some 35) (v := ?_) (a' := ?_) #[o,o,o,o,o,o,o,o,o,o,o,o,o,z,z,z,z,z,z,z,z,z,z,z,z,z,z,z,z,z,z,z,z,z,z,z,z,z,z,z,z,z,z,z,z,z,z,z,z,z] rfl rfl (take_ofW HT_.out HW_.out (by kernel_rfl)) (fun _ _ _ h => h) (Or.inl ⟨by rfl, ?_⟩) hHeld ?_ ?_
            rotate_left
            ·rintro w' ⟨s0, s1, s2, s3, s4, s5, s6, s7, s8, s9, s10, s11, s12, s13, s14, s15, s16, s17, s18, s19, s20, s21, s22, s23⟩
             go_simp
             with_reducible rfl
            rotate_left
            ·simp only [Act.put, qa, qb, qc, i64_w, i32_w]
             rfl
            refine take_ (i := 13) (N := some 39) (v := ?_) (a' := ?_) #[o,o,o,o,o,o,o,o,o,o,o,o,o,o,z,z,z,z,z,z,z,z,z,z,z,z,z,z,z,z,z,z,z,z,z,z,z,z,z,z,z,z,z,z,z,z,z,z,z,z] rfl rfl (take_ofW HT_.out HW_.out (by kernel_rfl)) (fun _ _ _ h => h) (Or.inl ⟨by rfl, ?_⟩) hHeld ?_ ?_
            rotate_left
            ·rintro w' ⟨s0, s1, s2, s3, s4, s5, s6, s7, s8, s9, s10, s11, s12, s13, s14, s15, s16, s17, s18, s19, s20, s21, s22, s23⟩
             go_simp
             with_reducible rfl
            rotate_left
            ·simp only [Act.put, qa, qb, qc, i64_w, i32_w]
             rfl
            refine one_ (i := 14) (N := some 40) #[o,o,o,o,o,o,o,o,o,o,o,o,o,o,o,z,z,z,z,z,z,z,z,z,z,z,z,z,z,z,z,z,z,z,z,z,z,z,z,z,z,z,z,z,z,z,z,z,z,z] rfl rfl (one_of HT_.out (by kernel_rfl)) (by decide) (fun K hK => ?_)
            refine goes_ Try.func26 (by kernel_rfl) rfl #[.agg #[.int .i64 ((rd_T46 l0 x5_2).f0), .int .i64 ((rd_T46 l0 x5_2).f1), .int .i64 ((rd_T46 l0 x5_2).f2.f0), .int .i64 ((rd_T46 l0 x5_2).f2.f1), .int .i64 ((rd_T46 l0 x5_2).f3), .int .i64 ((rd_T46 l0 x5_2).f4), .int .i64 ((rd_T46 l0 x5_2).f5.f0), .int .i64 ((rd_T46 l0 x5_2).f5.f1)], .agg #[.int .i64 ((rd_T46 l0 a1).f0), .int .i64 ((rd_T46 l0 a1).f1), .int .i64 ((rd_T46 l0 a1).f2.f0), .int .i64 ((rd_T46 l0 a1).f2.f1), .int .i64 ((rd_T46 l0 a1).f3), .int .i64 ((rd_T46 l0 a1).f4), .int .i64 ((rd_T46 l0 a1).f5.f0), .int .i64 ((rd_T46 l0 a1).f5.f1)]] (by rfl) rfl rfl (by (try simp only [List.map_toArray, List.map_cons, List.map_nil]); first | done | rfl | (simp only [List.length_drop, List.length_take]; rfl)) ?_
            with_reducible refine (spec_IsBefore.calls ((rd_T46 l0 x5_2).f0) ((rd_T46 l0 x5_2).f1) ((rd_T46 l0 x5_2).f2.f0) ((rd_T46 l0 x5_2).f2.f1) ((rd_T46 l0 x5_2).f3) ((rd_T46 l0 x5_2).f4) ((rd_T46 l0 x5_2).f5.f0) ((rd_T46 l0 x5_2).f5.f1) ((rd_T46 l0 a1).f0) ((rd_T46 l0 a1).f1) ((rd_T46 l0 a1).f2.f0) ((rd_T46 l0 a1).f2.f1) ((rd_T46 l0 a1).f3) ((rd_T46 l0 a1).f4) ((rd_T46 l0 a1).f5.f0) ((rd_T46 l0 a1).f5.f1) false _ A17.out).mono ?_
            rintro e w41 ⟨rfl, hb⟩
            refine ⟨_, rfl, ?_⟩
            replace HB := am (below_step (sB HB.out) hb)
            (try clear hb)
            (try clear hb2)
            (try clear hk)
            (try clear hi)
            refine hK.out _ _ ⟨(hc_ HB hw123_0), (hc_ HB hw123_1), (hc_ HB hw123_2), (hc_ HB hw123_3), (hc_ HB hw123_4), (hc_ HB hw123_5), (hc_ HB hw123_6), (hc_ HB hw123_7), (hc_ HB hw125_0), (hc_ HB hw125_1), (hc_ HB hw125_2), (hc_ HB hw125_3), (hc_ HB hw125_4), (hc_ HB hw125_5), (hc_ HB hw125_6), (hc_ HB hw125_7), (hc_ HB hw126_0), (hc_ HB hw126_1), (hc_ HB hw126_2), (hc_ HB hw126_3), (hc_ HB hw126_4), (hc_ HB hw126_5), (hc_ HB hw126_6), (hc_ HB hw126_7)⟩ (fun hHeld => ?_)
            clear hK K
            refine norm_ (a' := ?_) ?_ ?_
            rotate_left
            ·show Act.put _ (some 40) _ = _
             simp only [Act.put, qa, qb, qc, i64_w, i32_w]
             rfl
            refine pure_ (i := 15) (N := some 41) (v := ?_) (a' := ?_) #[o,o,o,o,o,o,o,o,o,o,o,o,o,o,o,o,z,z,z,z,z,z,z,z,z,z,z,z,z,z,z,z,z,z,z,z,z,z,z,z,z,z,z,z,z,z,z,z,z,z] rfl rfl (any_of HT_.out (by kernel_rfl)) (fun _ _ _ h => h) (Or.inl ⟨by rfl, ?_⟩) ?_ ?_
            rotate_left
            ·intro w'
             go_simp
             with_reducible rfl
            rotate_left
            ·simp only [Act.put, qa, qb, qc, i64_w, i32_w]
             rfl
            refine pure_ (i := 16) (N := some 42) (v := ?_) (a' := ?_) #[o,o,o,o,o,o,o,o,o,o,o,o,o,o,o,o,o,z,z,z,z,z,z,z,z,z,z,z,z,z,z,z,z,z,z,z,z,z,z,z,z,z,z,z,z,z,z,z,z,z] rfl rfl (any_of HT_.out (by kernel_rfl)) (fun _ _ _ h => h) (Or.inl ⟨by rfl, ?_⟩) ?_ ?_
            rotate_left
            ·intro w'
             go_simp
             with_reducible rfl
            rotate_left
            ·simp only [Act.put, qa, qb, qc, i64_w, i32_w]
             rfl
            refine pure_ (i := 17) (N := some 43) (v := undef) (a' := ?_) #[o,o,o,o,o,o,o,o,o,o,o,o,o,o,o,o,o,o,z,z,z,z,z,z,z,z,z,z,z,z,z,z,z,z,z,z,z,z,z,z,z,z,z,z,z,z,z,z,z,z] rfl rfl (any_of HT_.out (by kernel_rfl)) (fun _ _ _ h => h) (Or.inr ⟨by rfl, rfl⟩) ?_ ?_
            rotate_left
            ·simp only [Act.put, qa, qb, qc, i64_w, i32_w]
             rfl
            refine pure_ (i := 18) (N := some 44) (v := undef) (a' := ?_) #[o,o,o,o,o,o,o,o,o,o,o,o,o,o,o,o,o,o,o,z,z,z,z,z,z,z,z,z,z,z,z,z,z,z,z,z,z,z,z,z,z,z,z,z,z,z,z,z,z,z] rfl rfl (any_of HT_.out (by kernel_rfl)) (fun _ _ _ h => h) (Or.inr ⟨by rfl, rfl⟩) ?_ ?_
            rotate_left
            ·simp only [Act.put, qa, qb, qc, i64_w, i32_w]
             rfl
            refine pure_ (i := 19) (N := some 45) (v := undef) (a' := ?_) #[o,o,o,o,o,o,o,o,o,o,o,o,o,o,o,o,o,o,o,o,z,z,z,z,z,z,z,z,z,z,z,z,z,z,z,z,z,z,z,z,z,z,z,z,z,z,z,z,z,z] rfl rfl (any_of HT_.out (by kernel_rfl)) (fun _ _ _ h => h) (Or.inr ⟨by rfl, rfl⟩) ?_ ?_
            rotate_left
            ·simp only [Act.put, qa, qb, qc, i64_w, i32_w]
             rfl
            refine pure_ (i := 20) (N := some 46) (v := undef) (a' := ?_) #[o,o,o,o,o,o,o,o,o,o,o,o,o,o,o,o,o,o,o,o,o,z,z,z,z,z,z,z,z,z,z,z,z,z,z,z,z,z,z,z,z,z,z,z,z,z,z,z,z,z] rfl rfl (any_of HT_.out (by kernel_rfl)) (fun _ _ _ h => h) (Or.inr ⟨by rfl, rfl⟩) ?_ ?_
            rotate_left
            ·simp only [Act.put, qa, qb, qc, i64_w, i32_w]
             rfl
            refine pure_ (i := 21) (N := some 47) (v := undef) (a' := ?_) #[o,o,o,o,o,o,o,o,o,o,o,o,o,o,o,o,o,o,o,o,o,o,z,z,z,z,z,z,z,z,z,z,z,z,z,z,z,z,z,z,z,z,z,z,z,z,z,z,z,z] rfl rfl (any_of HT_.out (by kernel_rfl)) (fun _ _ _ h => h) (Or.inr ⟨by rfl, rfl⟩) ?_ ?_
            rotate_left
            ·simp only [Act.put, qa, qb, qc, i64_w, i32_w]
             rfl
            refine pure_ (i := 22) (N := some 48) (v := undef) (a' := ?_) #[o,o,o,o,o,o,o,o,o,o,o,o,o,o,o,o,o,o,o,o,o,o,o,z,z,z,z,z,z,z,z,z,z,z,z,z,z,z,z,z,z,z,z,z,z,z,z,z,z,z] rfl rfl (any_of HT_.out (by kernel_rfl)) (fun _ _ _ h => h) (Or.inr ⟨by rfl, rfl⟩) ?_ ?_
            rotate_left
            ·simp only [Act.put, qa, qb, qc, i64_w, i32_w]
             rfl
            refine pure_ (i := 23) (N := some 49) (v := undef) (a' := ?_) #[o,o,o,o,o,o,o,o,o,o,o,o,o,o,o,o,o,o,o,o,o,o,o,o,z,z,z,z,z,z,z,z,z,z,z,z,z,z,z,z,z,z,z,z,z,z,z,z,z,z] rfl rfl (any_of HT_.out (by kernel_rfl)) (fun _ _ _ h => h) (Or.inr ⟨by rfl, rfl⟩) ?_ ?_
            rotate_left
            ·simp only [Act.put, qa, qb, qc, i64_w, i32_w]
             rfl
            refine pure_ (i := 24) (N := some 50) (v := undef) (a' := ?_) #[o,o,o,o,o,o,o,o,o,o,o,o,o,o,o,o,o,o,o,o,o,o,o,o,o,z,z,z,z,z,z,z,z,z,z,z,z,z,z,z,z,z,z,z,z,z,z,z,z,z] rfl rfl (any_of HT_.out (by kernel_rfl)) (fun _ _ _ h => h) (Or.inr ⟨by rfl, rfl⟩) ?_ ?_
            rotate_left
            ·simp only [Act.put, qa, qb, qc, i64_w, i32_w]
             rfl
            refine pure_ (i := 25) (N := some 51) (v := undef) (a' := ?_) #[o,o,o,o,o,o,o,o,o,o,o,o,o,o,o,o,o,o,o,o,o,o,o,o,o,o,z,z,z,z,z,z,z,z,z,z,z,z,z,z,z,z,z,z,z,z,z,z,z,z] rfl rfl (any_of HT_.out (by kernel_rfl)) (fun _ _ _ h => h) (Or.inr ⟨by rfl, rfl⟩) ?_ ?_
            rotate_left
            ·simp only [Act.put, qa, qb, qc, i64_w, i32_w]
             rfl
            refine pure_ (i := 26) (N := some 52) (v := undef) (a' := ?_) #[o,o,o,o,o,o,o,o,o,o,o,o,o,o,o,o,o,o,o,o,o,o,o,o,o,o,o,z,z,z,z,z,z,z,z,z,z,z,z,z,z,z,z,z,z,z,z,z,z,z] rfl rfl (any_of HT_.out (by kernel_rfl)) (fun _ _ _ h => h) (Or.inr ⟨by rfl, rfl⟩) ?_ ?_
            rotate_left
            ·simp only [Act.put, qa, qb, qc, i64_w, i32_w]
             rfl
            refine pure_ (i := 27) (N := some 53) (v := undef) (a' := ?_) #[o,o,o,o,o,o,o,o,o,o,o,o,o,o,o,o,o,o,o,o,o,o,o,o,o,o,o,o,z,z,z,z,z,z,z,z,z,z,z,z,z,z,z,z,z,z,z,z,z,z] rfl rfl (any_of HT_.out (by kernel_rfl)) (fun _ _ _ h => h) (Or.inr ⟨by rfl, rfl⟩) ?_ ?_
            rotate_left
            ·simp only [Act.put, qa, qb, qc, i64_w, i32_w]
             rfl
            refine pure_ (i := 28) (N := some 54) (v := ?_) (a' := ?_) #[o,o,o,o,o,o,o,o,o,o,o,o,o,o,o,o,o,o,o,o,o,o,o,o,o,o,o,o,o,z,z,z,z,z,z,z,z,z,z,z,z,z,z,z,z,z,z,z,z,z] rfl rfl (any_of HT_.out (by kernel_rfl)) (fun _ _ _ h => h) (Or.inl ⟨by rfl, ?_⟩) ?_ ?_
            rotate_left
            ·intro w'
             go_simp
             with_reducible rfl
            rotate_left
            ·simp only [Act.put, qa, qb, qc, i64_w, i32_w]
             rfl
            refine pure_ (i := 29) (N := some 55) (v := ?_) (a' := ?_) #[o,o,o,o,o,o,o,o,o,o,o,o,o,o,o,o,o,o,o,o,o,o,o,o,o,o,o,o,o,o,z,z,z,z,z,z,z,z,z,z,z,z,z,z,z,z,z,z,z,z] rfl rfl (any_of HT_.out (by kernel_rfl)) (fun _ _ _ h => h) (Or.inl ⟨by rfl, ?_⟩) ?_ ?_
            rotate_left
            ·intro w'
             go_simp
             with_reducible rfl
            rotate_left
            ·simp only [Act.put, qa, qb, qc, i64_w, i32_w]
             rfl
            refine pure_ (i := 30) (N := some 56) (v := undef) (a' := ?_) #[o,o,o,o,o,o,o,o,o,o,o,o,o,o,o,o,o,o,o,o,o,o,o,o,o,o,o,o,o,o,o,z,z,z,z,z,z,z,z,z,z,z,z,z,z,z,z,z,z,z] rfl rfl (any_of HT_.out (by kernel_rfl)) (fun _ _ _ h => h) (Or.inr ⟨by rfl, rfl⟩) ?_ ?_
            rotate_left
            ·simp only [Act.put, qa, qb, qc, i64_w, i32_w]
             rfl
            refine pure_ (i := 31) (N := some 57) (v := undef) (a' := ?_) #[o,o,o,o,o,o,o,o,o,o,o,o,o,o,o,o,o,o,o,o,o,o,o,o,o,o,o,o,o,o,o,o,z,z,z,z,z,z,z,z,z,z,z,z,z,z,z,z,z,z] rfl rfl (any_of HT_.out (by kernel_rfl)) (fun _ _ _ h => h) (Or.inr ⟨by rfl, rfl⟩) ?_ ?_
            rotate_left
            ·simp only [Act.put, qa, qb, qc, i64_w, i32_w]
             rfl
            refine pure_ (i := 32) (N := some 58) (v := undef) (a' := ?_) #[o,o,o,o,o,o,o,o,o,o,o,o,o,o,o,o,o,o,o,o,o,o,o,o,o,o,o,o,o,o,o,o,o,z,z,z,z,z,z,z,z,z,z,z,z,z,z,z,z,z] rfl rfl (any_of HT_.out (by kernel_rfl)) (fun _ _ _ h => h) (Or.inr ⟨by rfl, rfl⟩) ?_ ?_
            rotate_left
            ·simp only [Act.put, qa, qb, qc, i64_w, i32_w]
             rfl
            refine pure_ (i := 33) (N := some 59) (v := undef) (a' := ?_) #[o,o,o,o,o,o,o,o,o,o,o,o,o,o,o,o,o,o,o,o,o,o,o,o,o,o,o,o,o,o,o,o,o,o,z,z,z,z,z,z,z,z,z,z,z,z,z,z,z,z] rfl rfl (any_of HT_.out (by kernel_rfl)) (fun _ _ _ h => h) (Or.inr ⟨by rfl, rfl⟩) ?_ ?_
            rotate_left
            ·simp only [Act.put, qa, qb, qc, i64_w, i32_w]
             rfl
            refine pure_ (i := 34) (N := some 60) (v := undef) (a' := ?_) #[o,o,o,o,o,o,o,o,o,o,o,o,o,o,o,o,o,o,o,o,o,o,o,o,o,o,o,o,o,o,o,o,o,o,o,z,z,z,z,z,z,z,z,z,z,z,z,z,z,z] rfl rfl (any_of HT_.out (by kernel_rfl)) (fun _ _ _ h => h) (Or.inr ⟨by rfl, rfl⟩) ?_ ?_
            rotate_left
            ·simp only [Act.put, qa, qb, qc, i64_w, i32_w]
             rfl
            refine pure_ (i := 35) (N := some 61) (v := undef) (a' := ?_) #[o,o,o,o,o,o,o,o,o,o,o,o,o,o,o,o,o,o,o,o,o,o,o,o,o,o,o,o,o,o,o,o,o,o,o,o,z,z,z,z,z,z,z,z,z,z,z,z,z,z] rfl rfl (any_of HT_.out (by kernel_rfl)) (fun _ _ _ h => h) (Or.inr ⟨by rfl, rfl⟩) ?_ ?_
            rotate_left
            ·simp only [Act.put, qa, qb, qc, i64_w, i32_w]
             rfl
            refine pure_ (i := 36) (N := some 62) (v := undef) (a' := ?_) #[o,o,o,o,o,o,o,o,o,o,o,o,o,o,o,o,o,o,o,o,o,o,o,o,o,o,o,o,o,o,o,o,o,o,o,o,o,z,z,z,z,z,z,z,z,z,z,z,z,z] rfl rfl (any_of HT_.out (by kernel_rfl)) (fun _ _ _ h => h) (Or.inr ⟨by rfl, rfl⟩) ?_ ?_
            rotate_left
            ·simp only [Act.put, qa, qb, qc, i64_w, i32_w]
             rfl
            refine pure_ (i := 37) (N := some 63) (v := undef) (a' := ?_) #[o,o,o,o,o,o,o,o,o,o,o,o,o,o,o,o,o,o,o,o,o,o,o,o,o,o,o,o,o,o,o,o,o,o,o,o,o,o,z,z,z,z,z,z,z,z,z,z,z,z] rfl rfl (any_of HT_.out (by kernel_rfl)) (fun _ _ _ h => h) (Or.inr ⟨by rfl, rfl⟩) ?_ ?_
            rotate_left
            ·simp only [Act.put, qa, qb, qc, i64_w, i32_w]
             rfl
            refine pure_ (i := 38) (N := some 64) (v := undef) (a' := ?_) #[o,o,o,o,o,o,o,o,o,o,o,o,o,o,o,o,o,o,o,o,o,o,o,o,o,o,o,o,o,o,o,o,o,o,o,o,o,o,o,z,z,z,z,z,z,z,z,z,z,z] rfl rfl (any_of HT_.out (by kernel_rfl)) (fun _ _ _ h => h) (Or.inr ⟨by rfl, rfl⟩) ?_ ?_
            rotate_left
            ·simp only [Act.put, qa, qb, qc, i64_w, i32_w]
             rfl
            refine pure_ (i := 39) (N := some 65) (v := undef) (a' := ?_) #[o,o,o,o,o,o,o,o,o,o,o,o,o,o,o,o,o,o,o,o,o,o,o,o,o,o,o,o,o,o,o,o,o,o,o,o,o,o,o,o,z,z,z,z,z,z,z,z,z,z] rfl rfl (any_of HT_.out (by kernel_rfl)) (fun _ _ _ h => h) (Or.inr ⟨by rfl, rfl⟩) ?_ ?_
            rotate_left
            ·simp only [Act.put, qa, qb, qc, i64_w, i32_w]
             rfl
            refine pure_ (i := 40) (N := some 66) (v := undef) (a' := ?_) #[o,o,o,o,o,o,o,o,o,o,o,o,o,o,o,o,o,o,o,o,o,o,o,o,o,o,o,o,o,o,o,o,o,o,o,o,o,o,o,o,o,z,z,z,z,z,z,z,z,z] rfl rfl (any_of HT_.out (by kernel_rfl)) (fun _ _ _ h => h) (Or.inr ⟨by rfl, rfl⟩) ?_ ?_
            rotate_left
            ·simp only [Act.put, qa, qb, qc, i64_w, i32_w]
             rfl
            refine pure_ (i := 41) (N := some 67) (v := undef) (a' := ?_) #[o,o,o,o,o,o,o,o,o,o,o,o,o,o,o,o,o,o,o,o,o,o,o,o,o,o,o,o,o,o,o,o,o,o,o,o,o,o,o,o,o,o,z,z,z,z,z,z,z,z] rfl rfl (any_of HT_.out (by kernel_rfl)) (fun _ _ _ h => h) (Or.inr ⟨by rfl, rfl⟩) ?_ ?_
            rotate_left
            ·simp only [Act.put, qa, qb, qc, i64_w, i32_w]
             rfl
            refine pure_ (i := 42) (N := some 68) (v := undef) (a' := ?_) #[o,o,o,o,o,o,o,o,o,o,o,o,o,o,o,o,o,o,o,o,o,o,o,o,o,o,o,o,o,o,o,o,o,o,o,o,o,o,o,o,o,o,o,z,z,z,z,z,z,z] rfl rfl (any_of HT_.out (by kernel_rfl)) (fun _ _ _ h => h) (Or.inr ⟨by rfl, rfl⟩) ?_ ?_
            rotate_left
            ·simp only [Act.put, qa, qb, qc, i64_w, i32_w]
             rfl
            refine pure_ (i := 43) (N := some 69) (v := undef) (a' := ?_) #[o,o,o,o,o,o,o,o,o,o,o,o,o,o,o,o,o,o,o,o,o,o,o,o,o,o,o,o,o,o,o,o,o,o,o,o,o,o,o,o,o,o,o,o,z,z,z,z,z,z] rfl rfl (any_of HT_.out (by kernel_rfl)) (fun _ _ _ h => h) (Or.inr ⟨by rfl, rfl⟩) ?_ ?_
            rotate_left
            ·simp only [Act.put, qa, qb, qc, i64_w, i32_w]
             rfl
            refine pure_ (i := 44) (N := some 70) (v := undef) (a' := ?_) #[o,o,o,o,o,o,o,o,o,o,o,o,o,o,o,o,o,o,o,o,o,o,o,o,o,o,o,o,o,o,o,o,o,o,o,o,o,o,o,o,o,o,o,o,o,z,z,z,z,z] rfl rfl (any_of HT_.out (by kernel_rfl)) (fun _ _ _ h => h) (Or.inr ⟨by rfl, rfl⟩) ?_ ?_
            rotate_left
            ·simp only [Act.put, qa, qb, qc, i64_w, i32_w]
             rfl
            refine pure_ (i := 45) (N := some 71) (v := undef) (a' := ?_) #[o,o,o,o,o,o,o,o,o,o,o,o,o,o,o,o,o,o,o,o,o,o,o,o,o,o,o,o,o,o,o,o,o,o,o,o,o,o,o,o,o,o,o,o,o,o,z,z,z,z] rfl rfl (any_of HT_.out (by kernel_rfl)) (fun _ _ _ h => h) (Or.inr ⟨by rfl, rfl⟩) ?_ ?_
            rotate_left
            ·simp only [Act.put, qa, qb, qc, i64_w, i32_w]
             rfl
            refine pure_ (i := 46) (N := some 72) (v := undef) (a' := ?_) #[o,o,o,o,o,o,o,o,o,o,o,o,o,o,o,o,o,o,o,o,o,o,o,o,o,o,o,o,o,o,o,o,o,o,o,o,o,o,o,o,o,o,o,o,o,o,o,z,z,z] rfl rfl (any_of HT_.out (by kernel_rfl)) (fun _ _ _ h => h) (Or.inr ⟨by rfl, rfl⟩) ?_ ?_
            rotate_left
            ·simp only [Act.put, qa, qb, qc, i64_w, i32_w]
             rfl
            refine pure_ (i := 47) (N := some 73) (v := undef) (a' := ?_) #[o,o,o,o,o,o,o,o,o,o,o,o,o,o,o,o,o,o,o,o,o,o,o,o,o,o,o,o,o,o,o,o,o,o,o,o,o,o,o,o,o,o,o,o,o,o,o,o,z,z] rfl rfl (any_of HT_.out (by kernel_rfl)) (fun _ _ _ h => h) (Or.inr ⟨by rfl, rfl⟩) ?_ ?_
            rotate_left
            ·simp only [Act.put, qa, qb, qc, i64_w, i32_w]
             rfl
            refine pure_ (i := 48) (N := some 74) (v := undef) (a' := ?_) #[o,o,o,o,o,o,o,o,o,o,o,o,o,o,o,o,o,o,o,o,o,o,o,o,o,o,o,o,o,o,o,o,o,o,o,o,o,o,o,o,o,o,o,o,o,o,o,o,o,z] rfl rfl (any_of HT_.out (by kernel_rfl)) (fun _ _ _ h => h) (Or.inr ⟨by rfl, rfl⟩) ?_ ?_
            rotate_left
            ·simp only [Act.put, qa, qb, qc, i64_w, i32_w]
             rfl
            refine pure_ (i := 49) (N := some 75) (v := ?_) (a' := ?_) #[o,o,o,o,o,o,o,o,o,o,o,o,o,o,o,o,o,o,o,o,o,o,o,o,o,o,o,o,o,o,o,o,o,o,o,o,o,o,o,o,o,o,o,o,o,o,o,o,o,o] rfl rfl (any_of HT_.out (by kernel_rfl)) (fun _ _ _ h => h) (Or.inl ⟨by rfl, ?_⟩) ?_ ?_
            rotate_left
            ·intro w'
             go_simp
             with_reducible rfl
            rotate_left
            ·simp only [Act.put, qa, qb, qc, i64_w, i32_w]
             rfl
            refine done_ (done_of HT_.out (by kernel_rfl)) ?_
            try go_wp2
            go_roundg k2
            case measure => have := HJ2.out; have := HK2.out; omega
            case rel => exact ⟨(wrap64 (x5_2 + 1)), (by first | rfl | (simp; done) | (simp [*]; done)), H', ⟨by have := HJ2.out; have := HK2.out; omega⟩, ⟨sB HB.out⟩⟩
          ·rw [if_neg c16] at H
           exact absurd H (by simp)
         ·rw [if_neg c15] at H
          exact absurd H (by simp)
        ·replace c14 := Bool.eq_false_iff.mpr c14
         subst c14
         have H1 : (spec_IsShadowed.l0 k2 l0 a1 (wrap64 (x5_2 + 1))) = some r := by rw [if_neg (show ¬ (false = true) by decide)] at H; exact H
         clear H
         have H := H1
         clear H1
         have H' := Aside0.mk H
         clear H
         try go_wp2
         replace HB := am (below_drew1 HB.out)
         have p123 : 0 ≤ (x5_2 : Int) := of_decide_eq_true (by first | (with_reducible assumption) | assumption)
         have q123 : x5_2 < (l0.length : Int) := of_decide_eq_true (by first | (with_reducible assumption) | assumption)
         obtain ⟨ad123, e123, hx123_0, hx123_1, hx123_2, hx123_3, hx123_4, hx123_5, hx123_6, hx123_7⟩ := at_T46 HR0.out x5_2 p123 q123
         have hw123_7 := hx123_7
         have hw123_6 := hx123_6
         have hw123_5 := hx123_5
         have hw123_4 := hx123_4
         have hw123_3 := hx123_3
         have hw123_2 := hx123_2
         have hw123_1 := hx123_1
         have hw123_0 := hx123_0
         cases e123
         replace hx123_0 := hc_ HB hx123_0
         replace hx123_1 := hc_ HB hx123_1
         replace hx123_2 := hc_ HB hx123_2
         replace hx123_3 := hc_ HB hx123_3
         replace hx123_4 := hc_ HB hx123_4
         replace hx123_5 := hc_ HB hx123_5
         replace hx123_6 := hc_ HB hx123_6
         replace hx123_7 := hc_ HB hx123_7
         replace p123 := eq_true p123
         replace q123 := eq_true q123
         refine start_ (n := 50) (S := fun w' => w'.cell? (ad123.add ((x5_2).toNat * 8)) = some (.int .i64 ((rd_T46 l0 x5_2).f0)) ∧ w'.cell? ⟨(ad123.add ((x5_2).toNat * 8)).block, (ad123.add ((x5_2).toNat * 8)).off + 1, none⟩ = some (.int .i64 ((rd_T46 l0 x5_2).f1)) ∧ w'.cell? ⟨(ad123.add ((x5_2).toNat * 8)).block, (ad123.add ((x5_2).toNat * 8)).off + 2, none⟩ = some (.int .i64 ((rd_T46 l0 x5_2).f2.f0)) ∧ w'.cell? ⟨(ad123.add ((x5_2).toNat * 8)).block, (ad123.add ((x5_2).toNat * 8)).off + 3, none⟩ = some (.int .i64 ((rd_T46 l0 x5_2).f2.f1)) ∧ w'.cell? ⟨(ad123.add ((x5_2).toNat * 8)).block, (ad123.add ((x5_2).toNat * 8)).off + 4, none⟩ = some (.int .i64 ((rd_T46 l0 x5_2).f3)) ∧ w'.cell? ⟨(ad123.add ((x5_2).toNat * 8)).block, (ad123.add ((x5_2).toNat * 8)).off + 5, none⟩ = some (.int .i64 ((rd_T46 l0 x5_2).f4)) ∧ w'.cell? ⟨(ad123.add ((x5_2).toNat * 8)).block, (ad123.add ((x5_2).toNat * 8)).off + 6, none⟩ = some (.int .i64 ((rd_T46 l0 x5_2).f5.f0)) ∧ w'.cell? ⟨(ad123.add ((x5_2).toNat * 8)).block, (ad123.add ((x5_2).toNat * 8)).off + 7, none⟩ = some (.int .i64 ((rd_T46 l0 x5_2).f5.f1))) (ds := []) #[z,z,z,z,z,z,z,z,z,z,z,z,z,z,z,z,z,z,z,z,z,z,z,z,z,z,z,z,z,z,z,z,z,z,z,z,z,z,z,z,z,z,z,z,z,z,z,z,z,z] (by kernel_rfl) rfl rfl ⟨(hc_ HB hw123_0), (hc_ HB hw123_1), (hc_ HB hw123_2), (hc_ HB hw123_3), (hc_ HB hw123_4), (hc_ HB hw123_5), (hc_ HB hw123_6), (hc_ HB hw123_7)⟩ (fun hHeld => ?_); refine with_tabW spec_IsShadowed.tab6 spec_IsShadowed.bits6 (fun HT_ HW_ => ?_)
         generalize wr.drew = w42 at HB hx123_0 hx123_1 hx123_2 hx123_3 hx123_4 hx123_5 hx123_6 hx123_7 hHeld ⊢
         refine pure_ (i := 0) (N := some 26) (v := ?_) (a' := ?_) #[o,z,z,z,z,z,z,z,z,z,z,z,z,z,z,z,z,z,z,z,z,z,z,z,z,z,z,z,z,z,z,z,z,z,z,z,z,z,z,z,z,z,z,z,z,z,z,z,z,z] rfl rfl (any_of HT_.out (by kernel_rfl)) (fun _ _ _ h => h) (Or.inl ⟨by rfl, ?_⟩) ?_ ?_
         rotate_left
         ·intro w'
          go_simp
          with_reducible rfl
         rotate_left
         ·simp only [Act.put, qa, qb, qc, i64_w, i32_w]
          rfl
         refine pure_ (i := 1) (N := some 27) (v := ?_) (a' := ?_) #[o,o,z,z,z,z,z,z,z,z,z,z,z,z,z,z,z,z,z,z,z,z,z,z,z,z,z,z,z,z,z,z,z,z,z,z,z,z,z,z,z,z,z,z,z,z,z,z,z,z] rfl rfl (any_of HT_.out (by kernel_rfl)) (fun _ _ _ h => h) (Or.inl ⟨by rfl, ?_⟩) ?_ ?_
         rotate_left
         ·intro w'
          go_simp
          with_reducible rfl
         rotate_left
         ·simp only [Act.put, qa, qb, qc, i64_w, i32_w]
          rfl
         refine pure_ (i := 2) (N := some 28) (v := ?_) (a' := ?_) #[o,o,o,z,z,z,z,z,z,z,z,z,z,z,z,z,z,z,z,z,z,z,z,z,z,z,z,z,z,z,z,z,z,z,z,z,z,z,z,z,z,z,z,z,z,z,z,z,z,z] rfl rfl (any_of HT_.out (by kernel_rfl)) (fun _ _ _ h => h) (Or.inl ⟨by rfl, ?_⟩) ?_ ?_
         rotate_left
         ·intro w'
          go_simp
          with_reducible rfl
         rotate_left
         ·simp only [Act.put, qa, qb, qc, i64_w, i32_w]
          rfl
         refine take_ (i := 3) (N := some 29) (v := ?_) (a' := ?_) #[o,o,o,o,z,z,z,z,z,z,z,z,z,z,z,z,z,z,z,z,z,z,z,z,z,z,z,z,z,z,z,z,z,z,z,z,z,z,z,z,z,z,z,z,z,z,z,z,z,z] rfl rfl (take_ofW HT_.out HW_.out (by kernel_rfl)) (fun _ _ _ h => h) (Or.inl ⟨by rfl, ?_⟩) hHeld ?_ ?_
         rotate_left
         ·rintro w' ⟨s0, s1, s2, s3, s4, s5, s6, s7⟩
          go_simp
          with_reducible rfl
         rotate_left
         ·simp only [Act.put, qa, qb, qc, i64_w, i32_w]
          rfl
         refine one_ (i := 4) (N := some 30) #[o,o,o,o,o,z,z,z,z,z,z,z,z,z,z,z,z,z,z,z,z,z,z,z,z,z,z,z,z,z,z,z,z,z,z,z,z,z,z,z,z,z,z,z,z,z,z,z,z,z] rfl rfl (one_of HT_.out (by kernel_rfl)) (by decide) (fun K hK => ?_)
         refine goes_ Try.func25 (by kernel_rfl) rfl #[.agg #[.int .i64 ((rd_T46 l0 x5_2).f0), .int .i64 ((rd_T46 l0 x5_2).f1), .int .i64 ((rd_T46 l0 x5_2).f2.f0), .int .i64 ((rd_T46 l0 x5_2).f2.f1), .int .i64 ((rd_T46 l0 x5_2).f3), .int .i64 ((rd_T46 l0 x5_2).f4), .int .i64 ((rd_T46 l0 x5_2).f5.f0), .int .i64 ((rd_T46 l0 x5_2).f5.f1)]] (by rfl) rfl rfl (by (try simp only [List.map_toArray, List.map_cons, List.map_nil]); first | done | rfl | (simp only [List.length_drop, List.length_take]; rfl)) ?_
         with_reducible refine (spec_IsRule.calls ((rd_T46 l0 x5_2).f0) ((rd_T46 l0 x5_2).f1) ((rd_T46 l0 x5_2).f2.f0) ((rd_T46 l0 x5_2).f2.f1) ((rd_T46 l0 x5_2).f3) ((rd_T46 l0 x5_2).f4) ((rd_T46 l0 x5_2).f5.f0) ((rd_T46 l0 x5_2).f5.f1) false _ A13.out).mono ?_
         rintro e w43 ⟨rfl, hb⟩
         refine ⟨_, rfl, ?_⟩
         replace HB := am (below_step (sB HB.out) hb)
         (try clear hb)
         (try clear hb2)
         (try clear hk)
         (try clear hi)
         refine hK.out _ _ ⟨(hc_ HB hw123_0), (hc_ HB hw123_1), (hc_ HB hw123_2), (hc_ HB hw123_3), (hc_ HB hw123_4), (hc_ HB hw123_5), (hc_ HB hw123_6), (hc_ HB hw123_7)⟩ (fun hHeld => ?_)
         clear hK K
         refine norm_ (a' := ?_) ?_ ?_
         rotate_left
         ·show Act.put _ (some 30) _ = _
          simp only [Act.put, qa, qb, qc, i64_w, i32_w]
          rfl
         refine pure_ (i := 5) (N := some 31) (v := ?_) (a' := ?_) #[o,o,o,o,o,o,z,z,z,z,z,z,z,z,z,z,z,z,z,z,z,z,z,z,z,z,z,z,z,z,z,z,z,z,z,z,z,z,z,z,z,z,z,z,z,z,z,z,z,z] rfl rfl (any_of HT_.out (by kernel_rfl)) (fun _ _ _ h => h) (Or.inl ⟨by rfl, ?_⟩) ?_ ?_
         rotate_left
         ·intro w'
          go_simp
          with_reducible rfl
         rotate_left
         ·simp only [Act.put, qa, qb, qc, i64_w, i32_w]
          rfl
         refine pure_ (i := 6) (N := some 32) (v := undef) (a' := ?_) #[o,o,o,o,o,o,o,z,z,z,z,z,z,z,z,z,z,z,z,z,z,z,z,z,z,z,z,z,z,z,z,z,z,z,z,z,z,z,z,z,z,z,z,z,z,z,z,z,z,z] rfl rfl (any_of HT_.out (by kernel_rfl)) (fun _ _ _ h => h) (Or.inr ⟨by rfl, rfl⟩) ?_ ?_
         rotate_left
         ·simp only [Act.put, qa, qb, qc, i64_w, i32_w]
          rfl
         refine pure_ (i := 7) (N := some 33) (v := undef) (a' := ?_) #[o,o,o,o,o,o,o,o,z,z,z,z,z,z,z,z,z,z,z,z,z,z,z,z,z,z,z,z,z,z,z,z,z,z,z,z,z,z,z,z,z,z,z,z,z,z,z,z,z,z] rfl rfl (any_of HT_.out (by kernel_rfl)) (fun _ _ _ h => h) (Or.inr ⟨by rfl, rfl⟩) ?_ ?_
         rotate_left
         ·simp only [Act.put, qa, qb, qc, i64_w, i32_w]
          rfl
         refine pure_ (i := 8) (N := some 34) (v := undef) (a' := ?_) #[o,o,o,o,o,o,o,o,o,z,z,z,z,z,z,z,z,z,z,z,z,z,z,z,z,z,z,z,z,z,z,z,z,z,z,z,z,z,z,z,z,z,z,z,z,z,z,z,z,z] rfl rfl (any_of HT_.out (by kernel_rfl)) (fun _ _ _ h => h) (Or.inr ⟨by rfl, rfl⟩) ?_ ?_
         rotate_left
         ·simp only [Act.put, qa, qb, qc, i64_w, i32_w]
          rfl
         refine pure_ (i := 9) (N := some 35) (v := undef) (a' := ?_) #[o,o,o,o,o,o,o,o,o,o,z,z,z,z,z,z,z,z,z,z,z,z,z,z,z,z,z,z,z,z,z,z,z,z,z,z,z,z,z,z,z,z,z,z,z,z,z,z,z,z] rfl rfl (any_of HT_.out (by kernel_rfl)) (fun _ _ _ h => h) (Or.inr ⟨by rfl, rfl⟩) ?_ ?_
         rotate_left
         ·simp only [Act.put, qa, qb, qc, i64_w, i32_w]
          rfl
         refine pure_ (i := 10) (N := some 36) (v := undef) (a' := ?_) #[o,o,o,o,o,o,o,o,o,o,o,z,z,z,z,z,z,z,z,z,z,z,z,z,z,z,z,z,z,z,z,z,z,z,z,z,z,z,z,z,z,z,z,z,z,z,z,z,z,z] rfl rfl (any_of HT_.out (by kernel_rfl)) (fun _ _ _ h => h) (Or.inr ⟨by rfl, rfl⟩) ?_ ?_
         rotate_left
         ·simp only [Act.put, qa, qb, qc, i64_w, i32_w]
          rfl
         refine pure_ (i := 11) (N := some 37) (v := undef) (a' := ?_) #[o,o,o,o,o,o,o,o,o,o,o,o,z,z,z,z,z,z,z,z,z,z,z,z,z,z,z,z,z,z,z,z,z,z,z,z,z,z,z,z,z,z,z,z,z,z,z,z,z,z] rfl rfl (any_of HT_.out (by kernel_rfl)) (fun _ _ _ h => h) (Or.inr ⟨by rfl, rfl⟩) ?_ ?_
         rotate_left
         ·simp only [Act.put, qa, qb, qc, i64_w, i32_w]
          rfl
         refine pure_ (i := 12) (N := some 38) (v := undef) (a' := ?_) #[o,o,o,o,o,o,o,o,o,o,o,o,o,z,z,z,z,z,z,z,z,z,z,z,z,z,z,z,z,z,z,z,z,z,z,z,z,z,z,z,z,z,z,z,z,z,z,z,z,z] rfl rfl (any_of HT_.out (by kernel_rfl)) (fun _ _ _ h => h) (Or.inr ⟨by rfl, rfl⟩) ?_ ?_
         rotate_left
         ·simp only [Act.put, qa, qb, qc, i64_w, i32_w]
          rfl
         refine pure_ (i := 13) (N := some 39) (v := undef) (a' := ?_) #[o,o,o,o,o,o,o,o,o,o,o,o,o,o,z,z,z,z,z,z,z,z,z,z,z,z,z,z,z,z,z,z,z,z,z,z,z,z,z,z,z,z,z,z,z,z,z,z,z,z] rfl rfl (any_of HT_.out (by kernel_rfl)) (fun _ _ _ h => h) (Or.inr ⟨by rfl, rfl⟩) ?_ ?_
         rotate_left
         ·simp only [Act.put, qa, qb, qc, i64_w, i32_w]
          rfl
         refine pure_ (i := 14) (N := some 40) (v := undef) (a' := ?_) #[o,o,o,o,o,o,o,o,o,o,o,o,o,o,o,z,z,z,z,z,z,z,z,z,z,z,z,z,z,z,z,z,z,z,z,z,z,z,z,z,z,z,z,z,z,z,z,z,z,z] rfl rfl (any_of HT_.out (by kernel_rfl)) (fun _ _ _ h => h) (Or.inr ⟨by rfl, rfl⟩) ?_ ?_
         rotate_left
         ·simp only [Act.put, qa, qb, qc, i64_w, i32_w]
          rfl
         refine pure_ (i := 15) (N := some 41) (v := ?_) (a' := ?_) #[o,o,o,o,o,o,o,o,o,o,o,o,o,o,o,o,z,z,z,z,z,z,z,z,z,z,z,z,z,z,z,z,z,z,z,z,z,z,z,z,z,z,z,z,z,z,z,z,z,z] rfl rfl (any_of HT_.out (by kernel_rfl)) (fun _ _ _ h => h) (Or.inl ⟨by rfl, ?_⟩) ?_ ?_
         rotate_left
         ·intro w'
          go_simp
          with_reducible rfl
         rotate_left
         ·simp only [Act.put, qa, qb, qc, i64_w, i32_w]
          rfl
         refine pure_ (i := 16) (N := some 42) (v := ?_) (a' := ?_) #[o,o,o,o,o,o,o,o,o,o,o,o,o,o,o,o,o,z,z,z,z,z,z,z,z,z,z,z,z,z,z,z,z,z,z,z,z,z,z,z,z,z,z,z,z,z,z,z,z,z] rfl rfl (any_of HT_.out (by kernel_rfl)) (fun _ _ _ h => h) (Or.inl ⟨by rfl, ?_⟩) ?_ ?_
         rotate_left
         ·intro w'
          go_simp
          with_reducible rfl
         rotate_left
         ·simp only [Act.put, qa, qb, qc, i64_w, i32_w]
          rfl
         refine pure_ (i := 17) (N := some 43) (v := undef) (a' := ?_) #[o,o,o,o,o,o,o,o,o,o,o,o,o,o,o,o,o,o,z,z,z,z,z,z,z,z,z,z,z,z,z,z,z,z,z,z,z,z,z,z,z,z,z,z,z,z,z,z,z,z] rfl rfl (any_of HT_.out (by kernel_rfl)) (fun _ _ _ h => h) (Or.inr ⟨by rfl, rfl⟩) ?_ ?_
         rotate_left
         ·simp only [Act.put, qa, qb, qc, i64_w, i32_w]
          rfl
         refine pure_ (i := 18) (N := some 44) (v := undef) (a' := ?_) #[o,o,o,o,o,o,o,o,o,o,o,o,o,o,o,o,o,o,o,z,z,z,z,z,z,z,z,z,z,z,z,z,z,z,z,z,z,z,z,z,z,z,z,z,z,z,z,z,z,z] rfl rfl (any_of HT_.out (by kernel_rfl)) (fun _ _ _ h => h) (Or.inr ⟨by rfl, rfl⟩) ?_ ?_
         rotate_left
         ·simp only [Act.put, qa, qb, qc, i64_w, i32_w]
          rfl
         refine pure_ (i := 19) (N := some 45) (v := undef) (a' := ?_) #[o,o,o,o,o,o,o,o,o,o,o,o,o,o,o,o,o,o,o,o,z,z,z,z,z,z,z,z,z,z,z,z,z,z,z,z,z,z,z,z,z,z,z,z,z,z,z,z,z,z] rfl rfl (any_of HT_.out (by kernel_rfl)) (fun _ _ _ h => h) (Or.inr ⟨by rfl, rfl⟩) ?_ ?_
         rotate_left
         ·simp only [Act.put, qa, qb, qc, i64_w, i32_w]
          rfl
         refine pure_ (i := 20) (N := some 46) (v := undef) (a' := ?_) #[o,o,o,o,o,o,o,o,o,o,o,o,o,o,o,o,o,o,o,o,o,z,z,z,z,z,z,z,z,z,z,z,z,z,z,z,z,z,z,z,z,z,z,z,z,z,z,z,z,z] rfl rfl (any_of HT_.out (by kernel_rfl)) (fun _ _ _ h => h) (Or.inr ⟨by rfl, rfl⟩) ?_ ?_
         rotate_left
         ·simp only [Act.put, qa, qb, qc, i64_w, i32_w]
          rfl
         refine pure_ (i := 21) (N := some 47) (v := undef) (a' := ?_) #[o,o,o,o,o,o,o,o,o,o,o,o,o,o,o,o,o,o,o,o,o,o,z,z,z,z,z,z,z,z,z,z,z,z,z,z,z,z,z,z,z,z,z,z,z,z,z,z,z,z] rfl rfl (any_of HT_.out (by kernel_rfl)) (fun _ _ _ h => h) (Or.inr ⟨by rfl, rfl⟩) ?_ ?_
         rotate_left
         ·simp only [Act.put, qa, qb, qc, i64_w, i32_w]
          rfl
         refine pure_ (i := 22) (N := some 48) (v := undef) (a' := ?_) #[o,o,o,o,o,o,o,o,o,o,o,o,o,o,o,o,o,o,o,o,o,o,o,z,z,z,z,z,z,z,z,z,z,z,z,z,z,z,z,z,z,z,z,z,z,z,z,z,z,z] rfl rfl (any_of HT_.out (by kernel_rfl)) (fun _ _ _ h => h) (Or.inr ⟨by rfl, rfl⟩) ?_ ?_
         rotate_left
         ·simp only [Act.put, qa, qb, qc, i64_w, i32_w]
          rfl
         refine pure_ (i := 23) (N := some 49) (v := undef) (a' := ?_) #[o,o,o,o,o,o,o,o,o,o,o,o,o,o,o,o,o,o,o,o,o,o,o,o,z,z,z,z,z,z,z,z,z,z,z,z,z,z,z,z,z,z,z,z,z,z,z,z,z,z] rfl rfl (any_of HT_.out (by kernel_rfl)) (fun _ _ _ h => h) (Or.inr ⟨by rfl, rfl⟩) ?_ ?_
         rotate_left
         ·simp only [Act.put, qa, qb, qc, i64_w, i32_w]
          rfl
         refine pure_ (i := 24) (N := some 50) (v := undef) (a' := ?_) #[o,o,o,o,o,o,o,o,o,o,o,o,o,o,o,o,o,o,o,o,o,o,o,o,o,z,z,z,z,z,z,z,z,z,z,z,z,z,z,z,z,z,z,z,z,z,z,z,z,z] rfl rfl (any_of HT_.out (by kernel_rfl)) (fun _ _ _ h => h) (Or.inr ⟨by rfl, rfl⟩) ?_ ?_
         rotate_left
         ·simp only [Act.put, qa, qb, qc, i64_w, i32_w]
          rfl
         refine pure_ (i := 25) (N := some 51) (v := undef) (a' := ?_) #[o,o,o,o,o,o,o,o,o,o,o,o,o,o,o,o,o,o,o,o,o,o,o,o,o,o,z,z,z,z,z,z,z,z,z,z,z,z,z,z,z,z,z,z,z,z,z,z,z,z] rfl rfl (any_of HT_.out (by kernel_rfl)) (fun _ _ _ h => h) (Or.inr ⟨by rfl, rfl⟩) ?_ ?_
         rotate_left
         ·simp only [Act.put, qa, qb, qc, i64_w, i32_w]
          rfl
         refine pure_ (i := 26) (N := some 52) (v := undef) (a' := ?_) #[o,o,o,o,o,o,o,o,o,o,o,o,o,o,o,o,o,o,o,o,o,o,o,o,o,o,o,z,z,z,z,z,z,z,z,z,z,z,z,z,z,z,z,z,z,z,z,z,z,z] rfl rfl (any_of HT_.out (by kernel_rfl)) (fun _ _ _ h => h) (Or.inr ⟨by rfl, rfl⟩) ?_ ?_
         rotate_left
         ·simp only [Act.put, qa, qb, qc, i64_w, i32_w]
          rfl
         refine pure_ (i := 27) (N := some 53) (v := undef) (a' := ?_) #[o,o,o,o,o,o,o,o,o,o,o,o,o,o,o,o,o,o,o,o,o,o,o,o,o,o,o,o,z,z,z,z,z,z,z,z,z,z,z,z,z,z,z,z,z,z,z,z,z,z] rfl rfl (any_of HT_.out (by kernel_rfl)) (fun _ _ _ h => h) (Or.inr ⟨by rfl, rfl⟩) ?_ ?_
         rotate_left
         ·simp only [Act.put, qa, qb, qc, i64_w, i32_w]
          rfl
         refine pure_ (i := 28) (N := some 54) (v := ?_) (a' := ?_) #[o,o,o,o,o,o,o,o,o,o,o,o,o,o,o,o,o,o,o,o,o,o,o,o,o,o,o,o,o,z,z,z,z,z,z,z,z,z,z,z,z,z,z,z,z,z,z,z,z,z] rfl rfl (any_of HT_.out (by kernel_rfl)) (fun _ _ _ h => h) (Or.inl ⟨by rfl, ?_⟩) ?_ ?_
         rotate_left
         ·intro w'
          go_simp
          with_reducible rfl
         rotate_left
         ·simp only [Act.put, qa, qb, qc, i64_w, i32_w]
          rfl
         refine pure_ (i := 29) (N := some 55) (v := ?_) (a' := ?_) #[o,o,o,o,o,o,o,o,o,o,o,o,o,o,o,o,o,o,o,o,o,o,o,o,o,o,o,o,o,o,z,z,z,z,z,z,z,z,z,z,z,z,z,z,z,z,z,z,z,z] rfl rfl (any_of HT_.out (by kernel_rfl)) (fun _ _ _ h => h) (Or.inl ⟨by rfl, ?_⟩) ?_ ?_
         rotate_left
         ·intro w'
          go_simp
          with_reducible rfl
         rotate_left
         ·simp only [Act.put, qa, qb, qc, i64_w, i32_w]
          rfl
         refine pure_ (i := 30) (N := some 56) (v := undef) (a' := ?_) #[o,o,o,o,o,o,o,o,o,o,o,o,o,o,o,o,o,o,o,o,o,o,o,o,o,o,o,o,o,o,o,z,z,z,z,z,z,z,z,z,z,z,z,z,z,z,z,z,z,z] rfl rfl (any_of HT_.out (by kernel_rfl)) (fun _ _ _ h => h) (Or.inr ⟨by rfl, rfl⟩) ?_ ?_
         rotate_left
         ·simp only [Act.put, qa, qb, qc, i64_w, i32_w]
          rfl
         refine pure_ (i := 31) (N := some 57) (v := undef) (a' := ?_) #[o,o,o,o,o,o,o,o,o,o,o,o,o,o,o,o,o,o,o,o,o,o,o,o,o,o,o,o,o,o,o,o,z,z,z,z,z,z,z,z,z,z,z,z,z,z,z,z,z,z] rfl rfl (any_of HT_.out (by kernel_rfl)) (fun _ _ _ h => h) (Or.inr ⟨by rfl, rfl⟩) ?_ ?_
         rotate_left
         ·simp only [Act.put, qa, qb, qc, i64_w, i32_w]
          rfl
         refine pure_ (i := 32) (N := some 58) (v := undef) (a' := ?_) #[o,o,o,o,o,o,o,o,o,o,o,o,o,o,o,o,o,o,o,o,o,o,o,o,o,o,o,o,o,o,o,o,o,z,z,z,z,z,z,z,z,z,z,z,z,z,z,z,z,z] rfl rfl (any_of HT_.out (by kernel_rfl)) (fun _ _ _ h => h) (Or.inr ⟨by rfl, rfl⟩) ?_ ?_
         rotate_left
         ·simp only [Act.put, qa, qb, qc, i64_w, i32_w]
          rfl
         refine pure_ (i := 33) (N := some 59) (v := undef) (a' := ?_) #[o,o,o,o,o,o,o,o,o,o,o,o,o,o,o,o,o,o,o,o,o,o,o,o,o,o,o,o,o,o,o,o,o,o,z,z,z,z,z,z,z,z,z,z,z,z,z,z,z,z] rfl rfl (any_of HT_.out (by kernel_rfl)) (fun _ _ _ h => h) (Or.inr ⟨by rfl, rfl⟩) ?_ ?_
         rotate_left
         ·simp only [Act.put, qa, qb, qc, i64_w, i32_w]
          rfl
         refine pure_ (i := 34) (N := some 60) (v := undef) (a' := ?_) #[o,o,o,o,o,o,o,o,o,o,o,o,o,o,o,o,o,o,o,o,o,o,o,o,o,o,o,o,o,o,o,o,o,o,o,z,z,z,z,z,z,z,z,z,z,z,z,z,z,z] rfl rfl (any_of HT_.out (by kernel_rfl)) (fun _ _ _ h => h) (Or.inr ⟨by rfl, rfl⟩) ?_ ?_
         rotate_left
         ·simp only [Act.put, qa, qb, qc, i64_w, i32_w]
          rfl
         refine pure_ (i := 35) (N := some 61) (v := undef) (a' := ?_) #[o,o,o,o,o,o,o,o,o,o,o,o,o,o,o,o,o,o,o,o,o,o,o,o,o,o,o,o,o,o,o,o,o,o,o,o,z,z,z,z,z,z,z,z,z,z,z,z,z,z] rfl rfl (any_of HT_.out (by kernel_rfl)) (fun _ _ _ h => h) (Or.inr ⟨by rfl, rfl⟩) ?_ ?_
         rotate_left
         ·simp only [Act.put, qa, qb, qc, i64_w, i32_w]
          rfl
         refine pure_ (i := 36) (N := some 62) (v := undef) (a' := ?_) #[o,o,o,o,o,o,o,o,o,o,o,o,o,o,o,o,o,o,o,o,o,o,o,o,o,o,o,o,o,o,o,o,o,o,o,o,o,z,z,z,z,z,z,z,z,z,z,z,z,z] rfl rfl (any_of HT_.out (by kernel_rfl)) (fun _ _ _ h => h) (Or.inr ⟨by rfl, rfl⟩) ?_ ?_
         rotate_left
         ·simp only [Act.put, qa, qb, qc, i64_w, i32_w]
          rfl
         refine pure_ (i := 37) (N := some 63) (v := undef) (a' := ?_) #[o,o,o,o,o,o,o,o,o,o,o,o,o,o,o,o,o,o,o,o,o,o,o,o,o,o,o,o,o,o,o,o,o,o,o,o,o,o,z,z,z,z,z,z,z,z,z,z,z,z] rfl rfl (any_of HT_.out (by kernel_rfl)) (fun _ _ _ h => h) (Or.inr ⟨by rfl, rfl⟩) ?_ ?_
         rotate_left
         ·simp only [Act.put, qa, qb, qc, i64_w, i32_w]
          rfl
         refine pure_ (i := 38) (N := some 64) (v := undef) (a' := ?_) #[o,o,o,o,o,o,o,o,o,o,o,o,o,o,o,o,o,o,o,o,o,o,o,o,o,o,o,o,o,o,o,o,o,o,o,o,o,o,o,z,z,z,z,z,z,z,z,z,z,z] rfl rfl (any_of HT_.out (by kernel_rfl)) (fun _ _ _ h => h) (Or.inr ⟨by rfl, rfl⟩) ?_ ?_
         rotate_left
         ·simp only [Act.put, qa, qb, qc, i64_w, i32_w]
          rfl
         refine pure_ (i := 39) (N := some 65) (v := undef) (a' := ?_) #[o,o,o,o,o,o,o,o,o,o,o,o,o,o,o,o,o,o,o,o,o,o,o,o,o,o,o,o,o,o,o,o,o,o,o,o,o,o,o,o,z,z,z,z,z,z,z,z,z,z] rfl rfl (any_of HT_.out (by kernel_rfl)) (fun _ _ _ h => h) (Or.inr ⟨by rfl, rfl⟩) ?_ ?_
         rotate_left
         ·simp only [Act.put, qa, qb, qc, i64_w, i32_w]
          rfl
         refine pure_ (i := 40) (N := some 66) (v := undef) (a' := ?_) #[o,o,o,o,o,o,o,o,o,o,o,o,o,o,o,o,o,o,o,o,o,o,o,o,o,o,o,o,o,o,o,o,o,o,o,o,o,o,o,o,o,z,z,z,z,z,z,z,z,z] rfl rfl (any_of HT_.out (by kernel_rfl)) (fun _ _ _ h => h) (Or.inr ⟨by rfl, rfl⟩) ?_ ?_
         rotate_left
         ·simp only [Act.put, qa, qb, qc, i64_w, i32_w]
          rfl
         refine pure_ (i := 41) (N := some 67) (v := undef) (a' := ?_) #[o,o,o,o,o,o,o,o,o,o,o,o,o,o,o,o,o,o,o,o,o,o,o,o,o,o,o,o,o,o,o,o,o,o,o,o,o,o,o,o,o,o,z,z,z,z,z,z,z,z] rfl rfl (any_of HT_.out (by kernel_rfl)) (fun _ _ _ h => h) (Or.inr ⟨by rfl, rfl⟩) ?_ ?_
         rotate_left
         ·simp only [Act.put, qa, qb, qc, i64_w, i32_w]
          rfl
         refine pure_ (i := 42) (N := some 68) (v := undef) (a' := ?_) #[o,o,o,o,o,o,o,o,o,o,o,o,o,o,o,o,o,o,o,o,o,o,o,o,o,o,o,o,o,o,o,o,o,o,o,o,o,o,o,o,o,o,o,z,z,z,z,z,z,z] rfl rfl (any_of HT_.out (by kernel_rfl)) (fun _ _ _ h => h) (Or.inr ⟨by rfl, rfl⟩) ?_ ?_
         rotate_left
         ·simp only [Act.put, qa, qb, qc, i64_w, i32_w]
          rfl
         refine pure_ (i := 43) (N := some 69) (v := undef) (a' := ?_) #[o,o,o,o,o,o,o,o,o,o,o,o,o,o,o,o,o,o,o,o,o,o,o,o,o,o,o,o,o,o,o,o,o,o,o,o,o,o,o,o,o,o,o,o,z,z,z,z,z,z] rfl rfl (any_of HT_.out (by kernel_rfl)) (fun _ _ _ h => h) (Or.inr ⟨by rfl, rfl⟩) ?_ ?_
         rotate_left
         ·simp only [Act.put, qa, qb, qc, i64_w, i32_w]
          rfl
         refine pure_ (i := 44) (N := some 70) (v := undef) (a' := ?_) #[o,o,o,o,o,o,o,o,o,o,o,o,o,o,o,o,o,o,o,o,o,o,o,o,o,o,o,o,o,o,o,o,o,o,o,o,o,o,o,o,o,o,o,o,o,z,z,z,z,z] rfl rfl (any_of HT_.out (by kernel_rfl)) (fun _ _ _ h => h) (Or.inr ⟨by rfl, rfl⟩) ?_ ?_
         rotate_left
         ·simp only [Act.put, qa, qb, qc, i64_w, i32_w]
          rfl
         refine pure_ (i := 45) (N := some 71) (v := undef) (a' := ?_) #[o,o,o,o,o,o,o,o,o,o,o,o,o,o,o,o,o,o,o,o,o,o,o,o,o,o,o,o,o,o,o,o,o,o,o,o,o,o,o,o,o,o,o,o,o,o,z,z,z,z] rfl rfl (any_of HT_.out (by kernel_rfl)) (fun _ _ _ h => h) (Or.inr ⟨by rfl, rfl⟩) ?_ ?_
         rotate_left
         ·simp only [Act.put, qa, qb, qc, i64_w, i32_w]
          rfl
         refine pure_ (i := 46) (N := some 72) (v := undef) (a' := ?_) #[o,o,o,o,o,o,o,o,o,o,o,o,o,o,o,o,o,o,o,o,o,o,o,o,o,o,o,o,o,o,o,o,o,o,o,o,o,o,o,o,o,o,o,o,o,o,o,z,z,z] rfl rfl (any_of HT_.out (by kernel_rfl)) (fun _ _ _ h => h) (Or.inr ⟨by rfl, rfl⟩) ?_ ?_
         rotate_left
         ·simp only [Act.put, qa, qb, qc, i64_w, i32_w]
          rfl
         refine pure_ (i := 47) (N := some 73) (v := undef) (a' := ?_) #[o,o,o,o,o,o,o,o,o,o,o,o,o,o,o,o,o,o,o,o,o,o,o,o,o,o,o,o,o,o,o,o,o,o,o,o,o,o,o,o,o,o,o,o,o,o,o,o,z,z] rfl rfl (any_of HT_.out (by kernel_rfl)) (fun _ _ _ h => h) (Or.inr ⟨by rfl, rfl⟩) ?_ ?_
         rotate_left
         ·simp only [Act.put, qa, qb, qc, i64_w, i32_w]
          rfl
         refine pure_ (i := 48) (N := some 74) (v := undef) (a' := ?_) #[o,o,o,o,o,o,o,o,o,o,o,o,o,o,o,o,o,o,o,o,o,o,o,o,o,o,o,o,o,o,o,o,o,o,o,o,o,o,o,o,o,o,o,o,o,o,o,o,o,z] rfl rfl (any_of HT_.out (by kernel_rfl)) (fun _ _ _ h => h) (Or.inr ⟨by rfl, rfl⟩) ?_ ?_
         rotate_left
         ·simp only [Act.put, qa, qb, qc, i64_w, i32_w]
          rfl
         refine pure_ (i := 49) (N := some 75) (v := ?_) (a' := ?_) #[o,o,o,o,o,o,o,o,o,o,o,o,o,o,o,o,o,o,o,o,o,o,o,o,o,o,o,o,o,o,o,o,o,o,o,o,o,o,o,o,o,o,o,o,o,o,o,o,o,o] rfl rfl (any_of HT_.out (by kernel_rfl)) (fun _ _ _ h => h) (Or.inl ⟨by rfl, ?_⟩) ?_ ?_
         rotate_left
         ·intro w'
          go_simp
          with_reducible rfl
         rotate_left
         ·simp only [Act.put, qa, qb, qc, i64_w, i32_w]
          rfl
         refine done_ (done_of HT_.out (by kernel_rfl)) ?_
         try go_wp2
         go_roundg k2
         case measure => have := HJ2.out; have := HK2.out; omega
         case rel => exact ⟨(wrap64 (x5_2 + 1)), (by first | rfl | (simp; done) | (simp [*]; done)), H', ⟨by have := HJ2.out; have := HK2.out; omega⟩, ⟨sB HB.out⟩⟩
       ·rw [if_neg c12] at H
        exact absurd H (by simp)
      ·rw [if_neg c11] at H
       have c11b0 : decide (x5_2 < (l0.length : Int)) = false := decide_eq_false c11
       clear c11
       obtain rfl := Option.some.inj H
       go_wp2
       go_ret
       exact ⟨by first | rfl | (simp [errW_none, errW_some] <;> rfl) | (simp [*, errW_none, errW_some] <;> rfl), sB HB.out⟩

end Go.Proofs.Ytbjhambdpjiibaa.QS
