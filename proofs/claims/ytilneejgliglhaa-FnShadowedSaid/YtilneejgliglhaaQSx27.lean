/- Go functions as Lean functions, each with its walk; printed by a program of this session (a scratch copy of print.py that follows nested field addresses and tells a law for the answer true). -/
import Derived.Test.YtilneejgliglhaaQSx0
import Derived.Test.YtilneejgliglhaaQSx19
import Derived.Test.YtilneejgliglhaaQSx24
import Derived.Test.YtilneejgliglhaaQSx26
namespace Go.Proofs.Ytilneejgliglhaa.QS
open Go.RowKit Go.Proofs.YtilneejgliglhaaW.PrintWords Go.Proofs.YtilneejgliglhaaW.PrintLast Go.Proofs.YtilneejgliglhaaW.PrintMore Go.Proofs.Ytilneejgliglhaa.Short
attribute [local go_sem] max2_int min2_int max_two min_two max_three min_three max_four min_four   -- for this text's walks alone
set_option linter.unusedVariables false
set_option linter.unusedSimpArgs false

/-! ### impl_IsShadowed: function 26 -/
mutual
def impl_IsShadowed.j0 : Nat → List (S84) → Int → Bool → Option (Bool)
 | 0, _, _, _ => none
 | k + 1, x0, x1, x22 => if x22 = true then (some false) else (impl_IsShadowed.l0 k x0 x1 x0 (x0.length : Int) 0)
def impl_IsShadowed.l0 : Nat → List (S84) → Int → List (S84) → Int → Int → Option (Bool)
 | 0, _, _, _, _, _ => none
 | k + 1, x0, x1, x23, x24, x25 => if x25 < x24 then (if 0 ≤ x25 then (if x25 < (x23.length : Int) then (if x25 = x1 then (impl_IsShadowed.l0 k x0 x1 x23 x24 (wrap64 (x25 + 1))) else ((impl_IsRule.f k ((rd_T84 x23 x25).f0) ((rd_T84 x23 x25).f1) ((rd_T84 x23 x25).f2.f0) ((rd_T84 x23 x25).f2.f1) ((rd_T84 x23 x25).f3) ((rd_T84 x23 x25).f4) ((rd_T84 x23 x25).f5.f0) ((rd_T84 x23 x25).f5.f1)).bind fun t322 => (if t322 = true then (if 0 ≤ x1 then (if x1 < (x0.length : Int) then ((impl_IsBefore.f k ((rd_T84 x23 x25).f0) ((rd_T84 x23 x25).f1) ((rd_T84 x23 x25).f2.f0) ((rd_T84 x23 x25).f2.f1) ((rd_T84 x23 x25).f3) ((rd_T84 x23 x25).f4) ((rd_T84 x23 x25).f5.f0) ((rd_T84 x23 x25).f5.f1) ((rd_T84 x0 x1).f0) ((rd_T84 x0 x1).f1) ((rd_T84 x0 x1).f2.f0) ((rd_T84 x0 x1).f2.f1) ((rd_T84 x0 x1).f3) ((rd_T84 x0 x1).f4) ((rd_T84 x0 x1).f5.f0) ((rd_T84 x0 x1).f5.f1)).bind fun t324 => (if t324 = true then ((impl_IsNarrower.f ((rd_T84 x0 x1).f2.f0) ((rd_T84 x0 x1).f2.f1) ((rd_T84 x23 x25).f2.f0) ((rd_T84 x23 x25).f2.f1)).bind fun t326 => (if t326 = true then (if ((rd_T84 x23 x25).f3) = 0 then (some true) else (if ((rd_T84 x23 x25).f3) = ((rd_T84 x0 x1).f3) then (some true) else (impl_IsShadowed.l0 k x0 x1 x23 x24 (wrap64 (x25 + 1))))) else (impl_IsShadowed.l0 k x0 x1 x23 x24 (wrap64 (x25 + 1))))) else (impl_IsShadowed.l0 k x0 x1 x23 x24 (wrap64 (x25 + 1))))) else (none)) else (none)) else (impl_IsShadowed.l0 k x0 x1 x23 x24 (wrap64 (x25 + 1)))))) else (none)) else (none)) else (some false)
end
def impl_IsShadowed.f (k : Nat) (l0 : List (S84)) (a1 : Int) : Option (Bool) := if a1 < 0 then (impl_IsShadowed.j0 k l0 a1 true) else (if a1 ≥ (l0.length : Int) then (impl_IsShadowed.j0 k l0 a1 true) else (if 0 ≤ a1 then (if a1 < (l0.length : Int) then ((impl_IsRule.f k ((rd_T84 l0 a1).f0) ((rd_T84 l0 a1).f1) ((rd_T84 l0 a1).f2.f0) ((rd_T84 l0 a1).f2.f1) ((rd_T84 l0 a1).f3) ((rd_T84 l0 a1).f4) ((rd_T84 l0 a1).f5.f0) ((rd_T84 l0 a1).f5.f1)).bind fun t319 => (impl_IsShadowed.j0 k l0 a1 (!t319))) else (none)) else (none)))
def impl_IsShadowed.T6 : Bool × List (List Nat × List Nat) := (true, [([], []), ([], []), ([0, 1], [0, 1]), ([2], [2]), ([3], [3]), ([4, 3, 3], [3, 4]), ([3, 5], [3, 5]), ([6, 5], [6]), ([7], [7]), ([7], [7]), ([7], [7]), ([9, 10, 7], [7, 9, 10]), ([11, 7], [7, 11]), ([8, 12, 7, 7], [7, 8, 12]), ([7, 13], [7, 13]), ([14, 13], [14]), ([15], [15]), ([15], [15]), ([16, 17, 15], [15, 16, 17]), ([18, 15], [15, 18]), ([19, 15], [15, 19]), ([15], [15]), ([21, 15], [15, 21]), ([20, 22, 15, 15], [15, 20, 22]), ([15, 23], [15, 23]), ([24, 23], [24]), ([25], [25]), ([26, 25], [25, 26]), ([27, 25], [25, 27]), ([28, 25, 25], [25, 28]), ([29], [29]), ([30, 29], [29, 30]), ([29], [29]), ([29], [29]), ([32, 33, 29], [29, 32, 33]), ([34, 29], [29, 34]), ([35, 29], [29, 35]), ([31, 36, 29], [29, 31, 36]), ([29, 37, 25], [25, 29, 37]), ([25, 38], [25, 38])])
def impl_IsShadowed.B6 : List Nat := [0, 0, 3, 7, 15, 31, 63, 127, 255, 255, 255, 1791, 3839, 8191, 16383, 32767, 65535, 65535, 262143, 524287, 1048575, 65535, 2162687, 8388607, 16777215, 33554431, 67108863, 134217727, 268435455, 536870911, 1073741823, 2147483647, 1073741823, 1073741823, 13958643711, 31138512895, 65498251263, 137438953471, 274877906943, 549755813887]
theorem impl_IsShadowed.tab6 : rtab .any (opsOf Try.f26 6) = impl_IsShadowed.T6 := by kernel_rfl
theorem impl_IsShadowed.bits6 : waitsOk impl_IsShadowed.T6.2 impl_IsShadowed.B6 = true := by kernel_rfl
set_option maxHeartbeats 8000000 in
set_option maxRecDepth 100000 in
theorem impl_IsShadowed.calls (k : Nat) (A0 : Option Addr) (c0 : Nat) (l0 : List (S84)) (a1 : Int) (r : Bool) (w : World) (hr0 : Kd.C k84 w A0 l0.length l0) (hc0 : l0.length ≤ c0) (h : impl_IsShadowed.f k l0 a1 = some r) :
  Calls Try.prog 26 #[.slice A0 l0.length c0, .int .i64 a1] w fun e w' => e = .returned (.bool r) ∧ Below w.heap.size w w' := by
 have hu84 := Try.underlying84
 have hu33 := Try.underlying33
 have HR0 := Aside0.mk hr0
 have HC0 := Aside0.mk hc0
 clear hr0 hc0
 have HB := am (Below.refl w.heap.size w)
 have H : (if a1 < 0 then (impl_IsShadowed.j0 k l0 a1 true) else (if a1 ≥ (l0.length : Int) then (impl_IsShadowed.j0 k l0 a1 true) else (if 0 ≤ a1 then (if a1 < (l0.length : Int) then ((impl_IsRule.f k ((rd_T84 l0 a1).f0) ((rd_T84 l0 a1).f1) ((rd_T84 l0 a1).f2.f0) ((rd_T84 l0 a1).f2.f1) ((rd_T84 l0 a1).f3) ((rd_T84 l0 a1).f4) ((rd_T84 l0 a1).f5.f0) ((rd_T84 l0 a1).f5.f1)).bind fun t319 => (impl_IsShadowed.j0 k l0 a1 (!t319))) else (none)) else (none)))) = some r := h
 clear h
 have HC3 := Aside0.mk H
 clear H
 go_enter Try.func26, Try.ntmps26
 go_upto_region 1 with (fail)
 go_cut [22] (fun v22 wc => ∃ (kq : Nat) (x22_2 : Bool), v22 = .bool x22_2 ∧ Aside0 (impl_IsShadowed.j0 kq l0 a1 x22_2 = some r) ∧ Aside0 (kq ≤ k) ∧ Aside0 (Below w.heap.size w wc))
 case first =>
  have H := HC3.out
  clear HC3
  by_cases c4 : a1 < 0
  ·rw [if_pos c4] at H
   have c4b0 : decide (a1 < 0) = true := decide_eq_true c4
   clear c4
   (first | rw [c4b0] | (simp only [i64_w, i32_w]; rw [c4b0]) | skip)
   have H' := Aside0.mk H
   clear H
   go_wp2
   go_meet
   case rel => exact ⟨_, (true), (by first | rfl | (simp; done) | (simp [*]; done)), H', ⟨by first | omega | exact Nat.le_refl _⟩, ⟨sB HB.out⟩⟩
  ·rw [if_neg c4] at H
   have c4b0 : decide (a1 < 0) = false := decide_eq_false c4
   clear c4
   (first | rw [c4b0] | (simp only [i64_w, i32_w]; rw [c4b0]) | skip)
   by_cases c5 : a1 ≥ (l0.length : Int)
   ·rw [if_pos c5] at H
    have c5b0 : decide ((l0.length : Int) ≤ a1) = true := decide_eq_true c5
    clear c5
    have H' := Aside0.mk H
    clear H
    go_wp2
    go_meet
    case rel => exact ⟨_, (true), (by first | rfl | (simp; done) | (simp [*]; done)), H', ⟨by first | omega | exact Nat.le_refl _⟩, ⟨sB HB.out⟩⟩
   ·rw [if_neg c5] at H
    have c5b0 : decide ((l0.length : Int) ≤ a1) = false := decide_eq_false c5
    clear c5
    by_cases c6 : 0 ≤ a1
    ·rw [if_pos c6] at H
     have c6b0 : decide (0 ≤ a1) = true := decide_eq_true c6
     clear c6
     by_cases c7 : a1 < (l0.length : Int)
     ·rw [if_pos c7] at H
      have c7b0 : decide (a1 < (l0.length : Int)) = true := decide_eq_true c7
      clear c7
      replace H := Option.bind_eq_some_iff.mp H
      obtain ⟨t319, A80, H⟩ := H
      replace H : (impl_IsShadowed.j0 k l0 a1 (!t319)) = some r := H
      have A8 := Aside0.mk A80
      clear A80
      have H' := Aside0.mk H
      clear H
      have p318 : 0 ≤ (a1 : Int) := of_decide_eq_true (by first | (with_reducible assumption) | assumption)
      have q318 : a1 < (l0.length : Int) := of_decide_eq_true (by first | (with_reducible assumption) | assumption)
      obtain ⟨ad318, e318, hx318_0, hx318_1, hx318_2, hx318_3, hx318_4, hx318_5, hx318_6, hx318_7⟩ := at_T84 HR0.out a1 p318 q318
      cases e318
      replace hx318_0 := hc_ HB hx318_0
      replace hx318_1 := hc_ HB hx318_1
      replace hx318_2 := hc_ HB hx318_2
      replace hx318_3 := hc_ HB hx318_3
      replace hx318_4 := hc_ HB hx318_4
      replace hx318_5 := hc_ HB hx318_5
      replace hx318_6 := hc_ HB hx318_6
      replace hx318_7 := hc_ HB hx318_7
      replace p318 := eq_true p318
      replace q318 := eq_true q318
      go_wp2_with (first | (go_at_call 56; (with_reducible refine (impl_IsRule.calls k ((rd_T84 l0 a1).f0) ((rd_T84 l0 a1).f1) ((rd_T84 l0 a1).f2.f0) ((rd_T84 l0 a1).f2.f1) ((rd_T84 l0 a1).f3) ((rd_T84 l0 a1).f4) ((rd_T84 l0 a1).f5.f0) ((rd_T84 l0 a1).f5.f1) t319 _ A8.out).mono ?_); rintro e w9 ⟨rfl, hb⟩; replace HB := am (below_step (sB HB.out) hb); (try clear hb); (try clear hb2); (try clear hk); (try clear hi)))
      go_meet
      case rel => exact ⟨_, (!t319), (by first | rfl | (simp; done) | (simp [*]; done)), H', ⟨by first | omega | exact Nat.le_refl _⟩, ⟨sB HB.out⟩⟩
     ·rw [if_neg c7] at H
      exact absurd H (by simp)
    ·rw [if_neg c6] at H
     exact absurd H (by simp)
 case rest =>
  clear HC3
  try clear c2
  try clear p2
  try clear p3
  try clear q3
  try clear hx3
  try clear c4
  try clear c4b0
  try clear c5
  try clear c5b0
  try clear c6
  try clear c6b0
  try clear c7
  try clear c7b0
  try clear hx318_0
  try clear hx318_1
  try clear hx318_2
  try clear hx318_3
  try clear hx318_4
  try clear hx318_5
  try clear hx318_6
  try clear hx318_7
  try clear p318
  try clear q318
  obtain ⟨kq, x22_2, rfl, HA, HJ2, HB⟩ := hcut
  cases kq with
  | zero => exact absurd HA.out (by simp [impl_IsShadowed.j0])
  | succ kj2 =>
   have H := HA.out
   clear HA
   simp only [impl_IsShadowed.j0] at H
   by_cases c10 : x22_2 = true
   ·subst c10
    have H1 : (some false) = some r := by rw [if_pos rfl] at H; exact H
    clear H
    have H := H1
    clear H1
    obtain rfl := Option.some.inj H
    go_wp2
    go_ret
    exact ⟨by first | rfl | (simp [errW_none, errW_some] <;> rfl) | (simp [*, errW_none, errW_some] <;> rfl), sB HB.out⟩
   ·replace c10 := Bool.eq_false_iff.mpr c10
    subst c10
    have H1 : (impl_IsShadowed.l0 kj2 l0 a1 l0 (l0.length : Int) 0) = some r := by rw [if_neg (show ¬ (false = true) by decide)] at H; exact H
    clear H
    have H := H1
    clear H1
    have H' := Aside0.mk H
    clear H
    go_wp2
    go_loopg [25] kj2 (fun kq v25 w' => ∃ (x25_2 : Int), v25 = .int .i64 x25_2 ∧ Aside0 (impl_IsShadowed.l0 kq l0 a1 l0 (l0.length : Int) x25_2 = some r) ∧ Aside0 (kq ≤ kj2) ∧ Aside0 (Below w.heap.size w w'))
    case atStart => exact ⟨(0), (by first | rfl | (simp; done) | (simp [*]; done)), H', ⟨Nat.le_refl _⟩, ⟨sB HB.out⟩⟩
    case round =>
     clear H'
     try clear c1
     try clear c2
     try clear p2
     try clear p3
     try clear q3
     try clear hx3
     try clear c4
     try clear c4b0
     try clear c5
     try clear c5b0
     try clear c6
     try clear c6b0
     try clear c7
     try clear c7b0
     try clear c10
     try clear hx318_0
     try clear hx318_1
     try clear hx318_2
     try clear hx318_3
     try clear hx318_4
     try clear hx318_5
     try clear hx318_6
     try clear hx318_7
     try clear p2
     try clear p3
     try clear p318
     try clear q3
     try clear q318
     obtain ⟨x25_2, rfl, HA, HK2, HB⟩ := hrel
     cases gk with
     | zero => exact absurd HA.out (by simp [impl_IsShadowed.l0])
     | succ k2 =>
      have H := HA.out
      clear HA
      simp only [impl_IsShadowed.l0] at H
      by_cases c11 : x25_2 < (l0.length : Int)
      ·rw [if_pos c11] at H
       have c11b0 : decide (x25_2 < (l0.length : Int)) = true := decide_eq_true c11
       clear c11
       by_cases c12 : 0 ≤ x25_2
       ·rw [if_pos c12] at H
        have c12b0 : decide (0 ≤ x25_2) = true := decide_eq_true c12
        clear c12
        by_cases c13 : x25_2 < (l0.length : Int)
        ·rw [if_pos c13] at H
         have c13b0 : decide (x25_2 < (l0.length : Int)) = true := decide_eq_true c13
         clear c13
         by_cases c14 : x25_2 = a1
         ·rw [if_pos c14] at H
          have c14b0 : (x25_2 == a1) = true := beq_iff_eq.mpr c14
          have c14b1 : (x25_2 != a1) = false := bne_eq_false_iff_eq.mpr c14
          clear c14
          have H' := Aside0.mk H
          clear H
          have p320 : 0 ≤ (x25_2 : Int) := of_decide_eq_true (by first | (with_reducible assumption) | assumption)
          have q320 : x25_2 < (l0.length : Int) := of_decide_eq_true (by first | (with_reducible assumption) | assumption)
          obtain ⟨ad320, e320, hx320_0, hx320_1, hx320_2, hx320_3, hx320_4, hx320_5, hx320_6, hx320_7⟩ := at_T84 HR0.out x25_2 p320 q320
          cases e320
          replace hx320_0 := hc_ HB hx320_0
          replace hx320_1 := hc_ HB hx320_1
          replace hx320_2 := hc_ HB hx320_2
          replace hx320_3 := hc_ HB hx320_3
          replace hx320_4 := hc_ HB hx320_4
          replace hx320_5 := hc_ HB hx320_5
          replace hx320_6 := hc_ HB hx320_6
          replace hx320_7 := hc_ HB hx320_7
          replace p320 := eq_true p320
          replace q320 := eq_true q320
          try go_wp2_with (first | ((with_reducible refine gate_dst (N := 6) rfl ?_); (try (refine gate_guard (by rfl) ?_; dsimp only)); refine box_event ?hg (N := 6) ?hd (cs := #[.int .i64 0, .int .i64 0, .int .i64 0, .int .i64 0, .int .i64 0, .int .i64 0, .int .i64 0, .int .i64 0]) (t := 84) ?hr ?_; (case hd => rfl); (case hg => rfl); (case hr => first | (go_simp; done) | (go_simp; rfl)); intro gb321 hg w15 hbox hb; have q_ := hbx_ (sB HB.out) hg hb; have n0_ := q_.1; have n1_ := am (hbox); have n2_ := q_.2; have n3_ := n2_; clear HB; have HB := n0_; have BK321 := n1_; have GW321 := n2_; have GE321 := n3_; clear n0_ n1_ n2_ n3_ hb hbox hg; obtain ⟨hcz16_0, hcz16_1, hcz16_2, hcz16_3, hcz16_4, hcz16_5, hcz16_6, hcz16_7, hfz16_0, hfz16_1, hfz16_2, hfz16_3, hfz16_4, hfz16_5, hfz16_6, hfz16_7⟩ := blk8 BK321.out))
          have n0_ : Aside0 (((((((((w15.setCell ⟨gb321, 0, none⟩ (.int .i64 ((rd_T84 l0 x25_2).f0))).setCell ⟨gb321, 1, none⟩ (.int .i64 ((rd_T84 l0 x25_2).f1))).setCell ⟨gb321, 2, none⟩ (.int .i64 ((rd_T84 l0 x25_2).f2.f0))).setCell ⟨gb321, 3, none⟩ (.int .i64 ((rd_T84 l0 x25_2).f2.f1))).setCell ⟨gb321, 4, none⟩ (.int .i64 ((rd_T84 l0 x25_2).f3))).setCell ⟨gb321, 5, none⟩ (.int .i64 ((rd_T84 l0 x25_2).f4))).setCell ⟨gb321, 6, none⟩ (.int .i64 ((rd_T84 l0 x25_2).f5.f0))).setCell ⟨gb321, 7, none⟩ (.int .i64 ((rd_T84 l0 x25_2).f5.f1))).heap[gb321]? = some (.cells #[.int .i64 ((rd_T84 l0 x25_2).f0), .int .i64 ((rd_T84 l0 x25_2).f1), .int .i64 ((rd_T84 l0 x25_2).f2.f0), .int .i64 ((rd_T84 l0 x25_2).f2.f1), .int .i64 ((rd_T84 l0 x25_2).f3), .int .i64 ((rd_T84 l0 x25_2).f4), .int .i64 ((rd_T84 l0 x25_2).f5.f0), .int .i64 ((rd_T84 l0 x25_2).f5.f1)] 84 (0, 0))) := ⟨by refine bB ?_; refine blk_put (cs := #[.int .i64 ((rd_T84 l0 x25_2).f0), .int .i64 ((rd_T84 l0 x25_2).f1), .int .i64 ((rd_T84 l0 x25_2).f2.f0), .int .i64 ((rd_T84 l0 x25_2).f2.f1), .int .i64 ((rd_T84 l0 x25_2).f3), .int .i64 ((rd_T84 l0 x25_2).f4), .int .i64 ((rd_T84 l0 x25_2).f5.f0), .int .i64 0]) ?_ 7 _ rfl; refine bB ?_; refine blk_put (cs := #[.int .i64 ((rd_T84 l0 x25_2).f0), .int .i64 ((rd_T84 l0 x25_2).f1), .int .i64 ((rd_T84 l0 x25_2).f2.f0), .int .i64 ((rd_T84 l0 x25_2).f2.f1), .int .i64 ((rd_T84 l0 x25_2).f3), .int .i64 ((rd_T84 l0 x25_2).f4), .int .i64 0, .int .i64 0]) ?_ 6 _ rfl; refine bB ?_; refine blk_put (cs := #[.int .i64 ((rd_T84 l0 x25_2).f0), .int .i64 ((rd_T84 l0 x25_2).f1), .int .i64 ((rd_T84 l0 x25_2).f2.f0), .int .i64 ((rd_T84 l0 x25_2).f2.f1), .int .i64 ((rd_T84 l0 x25_2).f3), .int .i64 0, .int .i64 0, .int .i64 0]) ?_ 5 _ rfl; refine bB ?_; refine blk_put (cs := #[.int .i64 ((rd_T84 l0 x25_2).f0), .int .i64 ((rd_T84 l0 x25_2).f1), .int .i64 ((rd_T84 l0 x25_2).f2.f0), .int .i64 ((rd_T84 l0 x25_2).f2.f1), .int .i64 0, .int .i64 0, .int .i64 0, .int .i64 0]) ?_ 4 _ rfl; refine bB ?_; refine blk_put (cs := #[.int .i64 ((rd_T84 l0 x25_2).f0), .int .i64 ((rd_T84 l0 x25_2).f1), .int .i64 ((rd_T84 l0 x25_2).f2.f0), .int .i64 0, .int .i64 0, .int .i64 0, .int .i64 0, .int .i64 0]) ?_ 3 _ rfl; refine bB ?_; refine blk_put (cs := #[.int .i64 ((rd_T84 l0 x25_2).f0), .int .i64 ((rd_T84 l0 x25_2).f1), .int .i64 0, .int .i64 0, .int .i64 0, .int .i64 0, .int .i64 0, .int .i64 0]) ?_ 2 _ rfl; refine bB ?_; refine blk_put (cs := #[.int .i64 ((rd_T84 l0 x25_2).f0), .int .i64 0, .int .i64 0, .int .i64 0, .int .i64 0, .int .i64 0, .int .i64 0, .int .i64 0]) ?_ 1 _ rfl; refine bB ?_; refine blk_put (cs := #[.int .i64 0, .int .i64 0, .int .i64 0, .int .i64 0, .int .i64 0, .int .i64 0, .int .i64 0, .int .i64 0]) ?_ 0 _ rfl; refine bB ?_; exact BK321.out⟩
          have n1_ : Aside0 (Below w.heap.size w ((((((((w15.setCell ⟨gb321, 0, none⟩ (.int .i64 ((rd_T84 l0 x25_2).f0))).setCell ⟨gb321, 1, none⟩ (.int .i64 ((rd_T84 l0 x25_2).f1))).setCell ⟨gb321, 2, none⟩ (.int .i64 ((rd_T84 l0 x25_2).f2.f0))).setCell ⟨gb321, 3, none⟩ (.int .i64 ((rd_T84 l0 x25_2).f2.f1))).setCell ⟨gb321, 4, none⟩ (.int .i64 ((rd_T84 l0 x25_2).f3))).setCell ⟨gb321, 5, none⟩ (.int .i64 ((rd_T84 l0 x25_2).f4))).setCell ⟨gb321, 6, none⟩ (.int .i64 ((rd_T84 l0 x25_2).f5.f0))).setCell ⟨gb321, 7, none⟩ (.int .i64 ((rd_T84 l0 x25_2).f5.f1)))) := ⟨sB HB.out⟩
          (try clear BK321)
          (try clear HB)
          generalize ((((((((w15.setCell ⟨gb321, 0, none⟩ (.int .i64 ((rd_T84 l0 x25_2).f0))).setCell ⟨gb321, 1, none⟩ (.int .i64 ((rd_T84 l0 x25_2).f1))).setCell ⟨gb321, 2, none⟩ (.int .i64 ((rd_T84 l0 x25_2).f2.f0))).setCell ⟨gb321, 3, none⟩ (.int .i64 ((rd_T84 l0 x25_2).f2.f1))).setCell ⟨gb321, 4, none⟩ (.int .i64 ((rd_T84 l0 x25_2).f3))).setCell ⟨gb321, 5, none⟩ (.int .i64 ((rd_T84 l0 x25_2).f4))).setCell ⟨gb321, 6, none⟩ (.int .i64 ((rd_T84 l0 x25_2).f5.f0))).setCell ⟨gb321, 7, none⟩ (.int .i64 ((rd_T84 l0 x25_2).f5.f1))) = w17 at n0_ n1_ ⊢
          have BK321 := n0_
          have HB := n1_
          clear n0_ n1_
          replace BK321 := am (blk_drew BK321.out)
          replace HB := am (below_drew1 HB.out)
          refine start_ (n := 40) (S := fun w' => True) (ds := []) #[z,z,z,z,z,z,z,z,z,z,z,z,z,z,z,z,z,z,z,z,z,z,z,z,z,z,z,z,z,z,z,z,z,z,z,z,z,z,z,z] (by kernel_rfl) rfl rfl trivial (fun hHeld => ?_); refine with_tabW impl_IsShadowed.tab6 impl_IsShadowed.bits6 (fun HT_ HW_ => ?_)
          generalize w17.drew = w18 at BK321 HB hHeld ⊢
          refine pure_ (i := 0) (N := some 30) (v := ?_) (a' := ?_) #[o,z,z,z,z,z,z,z,z,z,z,z,z,z,z,z,z,z,z,z,z,z,z,z,z,z,z,z,z,z,z,z,z,z,z,z,z,z,z,z] rfl rfl (any_of HT_.out (by kernel_rfl)) (fun _ _ _ h => h) (Or.inl ⟨by rfl, ?_⟩) ?_ ?_
          rotate_left
          ·intro w'
           go_simp
           with_reducible rfl
          rotate_left
          ·simp only [Act.put, qa, qb, qc, i64_w, i32_w]
           rfl
          refine pure_ (i := 1) (N := some 31) (v := ?_) (a' := ?_) #[o,o,z,z,z,z,z,z,z,z,z,z,z,z,z,z,z,z,z,z,z,z,z,z,z,z,z,z,z,z,z,z,z,z,z,z,z,z,z,z] rfl rfl (any_of HT_.out (by kernel_rfl)) (fun _ _ _ h => h) (Or.inl ⟨by rfl, ?_⟩) ?_ ?_
          rotate_left
          ·intro w'
           go_simp
           with_reducible rfl
          rotate_left
          ·simp only [Act.put, qa, qb, qc, i64_w, i32_w]
           rfl
          refine pure_ (i := 2) (N := some 32) (v := ?_) (a' := ?_) #[o,o,o,z,z,z,z,z,z,z,z,z,z,z,z,z,z,z,z,z,z,z,z,z,z,z,z,z,z,z,z,z,z,z,z,z,z,z,z,z] rfl rfl (any_of HT_.out (by kernel_rfl)) (fun _ _ _ h => h) (Or.inl ⟨by rfl, ?_⟩) ?_ ?_
          rotate_left
          ·intro w'
           go_simp
           with_reducible rfl
          rotate_left
          ·simp only [Act.put, qa, qb, qc, i64_w, i32_w]
           rfl
          refine pure_ (i := 3) (N := some 33) (v := ?_) (a' := ?_) #[o,o,o,o,z,z,z,z,z,z,z,z,z,z,z,z,z,z,z,z,z,z,z,z,z,z,z,z,z,z,z,z,z,z,z,z,z,z,z,z] rfl rfl (any_of HT_.out (by kernel_rfl)) (fun _ _ _ h => h) (Or.inl ⟨by rfl, ?_⟩) ?_ ?_
          rotate_left
          ·intro w'
           go_simp
           with_reducible rfl
          rotate_left
          ·simp only [Act.put, qa, qb, qc, i64_w, i32_w]
           rfl
          refine pure_ (i := 4) (N := some 34) (v := undef) (a' := ?_) #[o,o,o,o,o,z,z,z,z,z,z,z,z,z,z,z,z,z,z,z,z,z,z,z,z,z,z,z,z,z,z,z,z,z,z,z,z,z,z,z] rfl rfl (any_of HT_.out (by kernel_rfl)) (fun _ _ _ h => h) (Or.inr ⟨by rfl, rfl⟩) ?_ ?_
          rotate_left
          ·simp only [Act.put, qa, qb, qc, i64_w, i32_w]
           rfl
          refine pure_ (i := 5) (N := some 35) (v := undef) (a' := ?_) #[o,o,o,o,o,o,z,z,z,z,z,z,z,z,z,z,z,z,z,z,z,z,z,z,z,z,z,z,z,z,z,z,z,z,z,z,z,z,z,z] rfl rfl (any_of HT_.out (by kernel_rfl)) (fun _ _ _ h => h) (Or.inr ⟨by rfl, rfl⟩) ?_ ?_
          rotate_left
          ·simp only [Act.put, qa, qb, qc, i64_w, i32_w]
           rfl
          refine pure_ (i := 6) (N := some 36) (v := ?_) (a' := ?_) #[o,o,o,o,o,o,o,z,z,z,z,z,z,z,z,z,z,z,z,z,z,z,z,z,z,z,z,z,z,z,z,z,z,z,z,z,z,z,z,z] rfl rfl (any_of HT_.out (by kernel_rfl)) (fun _ _ _ h => h) (Or.inl ⟨by rfl, ?_⟩) ?_ ?_
          rotate_left
          ·intro w'
           go_simp
           with_reducible rfl
          rotate_left
          ·simp only [Act.put, qa, qb, qc, i64_w, i32_w]
           rfl
          refine pure_ (i := 7) (N := some 37) (v := ?_) (a' := ?_) #[o,o,o,o,o,o,o,o,z,z,z,z,z,z,z,z,z,z,z,z,z,z,z,z,z,z,z,z,z,z,z,z,z,z,z,z,z,z,z,z] rfl rfl (any_of HT_.out (by kernel_rfl)) (fun _ _ _ h => h) (Or.inl ⟨by rfl, ?_⟩) ?_ ?_
          rotate_left
          ·intro w'
           go_simp
           with_reducible rfl
          rotate_left
          ·simp only [Act.put, qa, qb, qc, i64_w, i32_w]
           rfl
          refine pure_ (i := 8) (N := some 38) (v := undef) (a' := ?_) #[o,o,o,o,o,o,o,o,o,z,z,z,z,z,z,z,z,z,z,z,z,z,z,z,z,z,z,z,z,z,z,z,z,z,z,z,z,z,z,z] rfl rfl (any_of HT_.out (by kernel_rfl)) (fun _ _ _ h => h) (Or.inr ⟨by rfl, rfl⟩) ?_ ?_
          rotate_left
          ·simp only [Act.put, qa, qb, qc, i64_w, i32_w]
           rfl
          refine pure_ (i := 9) (N := some 39) (v := undef) (a' := ?_) #[o,o,o,o,o,o,o,o,o,o,z,z,z,z,z,z,z,z,z,z,z,z,z,z,z,z,z,z,z,z,z,z,z,z,z,z,z,z,z,z] rfl rfl (any_of HT_.out (by kernel_rfl)) (fun _ _ _ h => h) (Or.inr ⟨by rfl, rfl⟩) ?_ ?_
          rotate_left
          ·simp only [Act.put, qa, qb, qc, i64_w, i32_w]
           rfl
          refine pure_ (i := 10) (N := some 40) (v := undef) (a' := ?_) #[o,o,o,o,o,o,o,o,o,o,o,z,z,z,z,z,z,z,z,z,z,z,z,z,z,z,z,z,z,z,z,z,z,z,z,z,z,z,z,z] rfl rfl (any_of HT_.out (by kernel_rfl)) (fun _ _ _ h => h) (Or.inr ⟨by rfl, rfl⟩) ?_ ?_
          rotate_left
          ·simp only [Act.put, qa, qb, qc, i64_w, i32_w]
           rfl
          refine pure_ (i := 11) (N := some 41) (v := undef) (a' := ?_) #[o,o,o,o,o,o,o,o,o,o,o,o,z,z,z,z,z,z,z,z,z,z,z,z,z,z,z,z,z,z,z,z,z,z,z,z,z,z,z,z] rfl rfl (any_of HT_.out (by kernel_rfl)) (fun _ _ _ h => h) (Or.inr ⟨by rfl, rfl⟩) ?_ ?_
          rotate_left
          ·simp only [Act.put, qa, qb, qc, i64_w, i32_w]
           rfl
          refine pure_ (i := 12) (N := some 42) (v := undef) (a' := ?_) #[o,o,o,o,o,o,o,o,o,o,o,o,o,z,z,z,z,z,z,z,z,z,z,z,z,z,z,z,z,z,z,z,z,z,z,z,z,z,z,z] rfl rfl (any_of HT_.out (by kernel_rfl)) (fun _ _ _ h => h) (Or.inr ⟨by rfl, rfl⟩) ?_ ?_
          rotate_left
          ·simp only [Act.put, qa, qb, qc, i64_w, i32_w]
           rfl
          refine pure_ (i := 13) (N := some 43) (v := undef) (a' := ?_) #[o,o,o,o,o,o,o,o,o,o,o,o,o,o,z,z,z,z,z,z,z,z,z,z,z,z,z,z,z,z,z,z,z,z,z,z,z,z,z,z] rfl rfl (any_of HT_.out (by kernel_rfl)) (fun _ _ _ h => h) (Or.inr ⟨by rfl, rfl⟩) ?_ ?_
          rotate_left
          ·simp only [Act.put, qa, qb, qc, i64_w, i32_w]
           rfl
          refine pure_ (i := 14) (N := some 44) (v := ?_) (a' := ?_) #[o,o,o,o,o,o,o,o,o,o,o,o,o,o,o,z,z,z,z,z,z,z,z,z,z,z,z,z,z,z,z,z,z,z,z,z,z,z,z,z] rfl rfl (any_of HT_.out (by kernel_rfl)) (fun _ _ _ h => h) (Or.inl ⟨by rfl, ?_⟩) ?_ ?_
          rotate_left
          ·intro w'
           go_simp
           with_reducible rfl
          rotate_left
          ·simp only [Act.put, qa, qb, qc, i64_w, i32_w]
           rfl
          refine pure_ (i := 15) (N := some 45) (v := ?_) (a' := ?_) #[o,o,o,o,o,o,o,o,o,o,o,o,o,o,o,o,z,z,z,z,z,z,z,z,z,z,z,z,z,z,z,z,z,z,z,z,z,z,z,z] rfl rfl (any_of HT_.out (by kernel_rfl)) (fun _ _ _ h => h) (Or.inl ⟨by rfl, ?_⟩) ?_ ?_
          rotate_left
          ·intro w'
           go_simp
           with_reducible rfl
          rotate_left
          ·simp only [Act.put, qa, qb, qc, i64_w, i32_w]
           rfl
          refine pure_ (i := 16) (N := some 46) (v := undef) (a' := ?_) #[o,o,o,o,o,o,o,o,o,o,o,o,o,o,o,o,o,z,z,z,z,z,z,z,z,z,z,z,z,z,z,z,z,z,z,z,z,z,z,z] rfl rfl (any_of HT_.out (by kernel_rfl)) (fun _ _ _ h => h) (Or.inr ⟨by rfl, rfl⟩) ?_ ?_
          rotate_left
          ·simp only [Act.put, qa, qb, qc, i64_w, i32_w]
           rfl
          refine pure_ (i := 17) (N := some 47) (v := undef) (a' := ?_) #[o,o,o,o,o,o,o,o,o,o,o,o,o,o,o,o,o,o,z,z,z,z,z,z,z,z,z,z,z,z,z,z,z,z,z,z,z,z,z,z] rfl rfl (any_of HT_.out (by kernel_rfl)) (fun _ _ _ h => h) (Or.inr ⟨by rfl, rfl⟩) ?_ ?_
          rotate_left
          ·simp only [Act.put, qa, qb, qc, i64_w, i32_w]
           rfl
          refine pure_ (i := 18) (N := some 48) (v := undef) (a' := ?_) #[o,o,o,o,o,o,o,o,o,o,o,o,o,o,o,o,o,o,o,z,z,z,z,z,z,z,z,z,z,z,z,z,z,z,z,z,z,z,z,z] rfl rfl (any_of HT_.out (by kernel_rfl)) (fun _ _ _ h => h) (Or.inr ⟨by rfl, rfl⟩) ?_ ?_
          rotate_left
          ·simp only [Act.put, qa, qb, qc, i64_w, i32_w]
           rfl
          refine pure_ (i := 19) (N := some 49) (v := undef) (a' := ?_) #[o,o,o,o,o,o,o,o,o,o,o,o,o,o,o,o,o,o,o,o,z,z,z,z,z,z,z,z,z,z,z,z,z,z,z,z,z,z,z,z] rfl rfl (any_of HT_.out (by kernel_rfl)) (fun _ _ _ h => h) (Or.inr ⟨by rfl, rfl⟩) ?_ ?_
          rotate_left
          ·simp only [Act.put, qa, qb, qc, i64_w, i32_w]
           rfl
          refine pure_ (i := 20) (N := some 50) (v := undef) (a' := ?_) #[o,o,o,o,o,o,o,o,o,o,o,o,o,o,o,o,o,o,o,o,o,z,z,z,z,z,z,z,z,z,z,z,z,z,z,z,z,z,z,z] rfl rfl (any_of HT_.out (by kernel_rfl)) (fun _ _ _ h => h) (Or.inr ⟨by rfl, rfl⟩) ?_ ?_
          rotate_left
          ·simp only [Act.put, qa, qb, qc, i64_w, i32_w]
           rfl
          refine pure_ (i := 21) (N := some 51) (v := undef) (a' := ?_) #[o,o,o,o,o,o,o,o,o,o,o,o,o,o,o,o,o,o,o,o,o,o,z,z,z,z,z,z,z,z,z,z,z,z,z,z,z,z,z,z] rfl rfl (any_of HT_.out (by kernel_rfl)) (fun _ _ _ h => h) (Or.inr ⟨by rfl, rfl⟩) ?_ ?_
          rotate_left
          ·simp only [Act.put, qa, qb, qc, i64_w, i32_w]
           rfl
          refine pure_ (i := 22) (N := some 52) (v := undef) (a' := ?_) #[o,o,o,o,o,o,o,o,o,o,o,o,o,o,o,o,o,o,o,o,o,o,o,z,z,z,z,z,z,z,z,z,z,z,z,z,z,z,z,z] rfl rfl (any_of HT_.out (by kernel_rfl)) (fun _ _ _ h => h) (Or.inr ⟨by rfl, rfl⟩) ?_ ?_
          rotate_left
          ·simp only [Act.put, qa, qb, qc, i64_w, i32_w]
           rfl
          refine pure_ (i := 23) (N := some 53) (v := undef) (a' := ?_) #[o,o,o,o,o,o,o,o,o,o,o,o,o,o,o,o,o,o,o,o,o,o,o,o,z,z,z,z,z,z,z,z,z,z,z,z,z,z,z,z] rfl rfl (any_of HT_.out (by kernel_rfl)) (fun _ _ _ h => h) (Or.inr ⟨by rfl, rfl⟩) ?_ ?_
          rotate_left
          ·simp only [Act.put, qa, qb, qc, i64_w, i32_w]
           rfl
          refine pure_ (i := 24) (N := some 54) (v := ?_) (a' := ?_) #[o,o,o,o,o,o,o,o,o,o,o,o,o,o,o,o,o,o,o,o,o,o,o,o,o,z,z,z,z,z,z,z,z,z,z,z,z,z,z,z] rfl rfl (any_of HT_.out (by kernel_rfl)) (fun _ _ _ h => h) (Or.inl ⟨by rfl, ?_⟩) ?_ ?_
          rotate_left
          ·intro w'
           go_simp
           with_reducible rfl
          rotate_left
          ·simp only [Act.put, qa, qb, qc, i64_w, i32_w]
           rfl
          refine pure_ (i := 25) (N := some 55) (v := ?_) (a' := ?_) #[o,o,o,o,o,o,o,o,o,o,o,o,o,o,o,o,o,o,o,o,o,o,o,o,o,o,z,z,z,z,z,z,z,z,z,z,z,z,z,z] rfl rfl (any_of HT_.out (by kernel_rfl)) (fun _ _ _ h => h) (Or.inl ⟨by rfl, ?_⟩) ?_ ?_
          rotate_left
          ·intro w'
           go_simp
           with_reducible rfl
          rotate_left
          ·simp only [Act.put, qa, qb, qc, i64_w, i32_w]
           rfl
          refine pure_ (i := 26) (N := some 56) (v := undef) (a' := ?_) #[o,o,o,o,o,o,o,o,o,o,o,o,o,o,o,o,o,o,o,o,o,o,o,o,o,o,o,z,z,z,z,z,z,z,z,z,z,z,z,z] rfl rfl (any_of HT_.out (by kernel_rfl)) (fun _ _ _ h => h) (Or.inr ⟨by rfl, rfl⟩) ?_ ?_
          rotate_left
          ·simp only [Act.put, qa, qb, qc, i64_w, i32_w]
           rfl
          refine pure_ (i := 27) (N := some 57) (v := undef) (a' := ?_) #[o,o,o,o,o,o,o,o,o,o,o,o,o,o,o,o,o,o,o,o,o,o,o,o,o,o,o,o,z,z,z,z,z,z,z,z,z,z,z,z] rfl rfl (any_of HT_.out (by kernel_rfl)) (fun _ _ _ h => h) (Or.inr ⟨by rfl, rfl⟩) ?_ ?_
          rotate_left
          ·simp only [Act.put, qa, qb, qc, i64_w, i32_w]
           rfl
          refine pure_ (i := 28) (N := some 58) (v := undef) (a' := ?_) #[o,o,o,o,o,o,o,o,o,o,o,o,o,o,o,o,o,o,o,o,o,o,o,o,o,o,o,o,o,z,z,z,z,z,z,z,z,z,z,z] rfl rfl (any_of HT_.out (by kernel_rfl)) (fun _ _ _ h => h) (Or.inr ⟨by rfl, rfl⟩) ?_ ?_
          rotate_left
          ·simp only [Act.put, qa, qb, qc, i64_w, i32_w]
           rfl
          refine pure_ (i := 29) (N := some 59) (v := undef) (a' := ?_) #[o,o,o,o,o,o,o,o,o,o,o,o,o,o,o,o,o,o,o,o,o,o,o,o,o,o,o,o,o,o,z,z,z,z,z,z,z,z,z,z] rfl rfl (any_of HT_.out (by kernel_rfl)) (fun _ _ _ h => h) (Or.inr ⟨by rfl, rfl⟩) ?_ ?_
          rotate_left
          ·simp only [Act.put, qa, qb, qc, i64_w, i32_w]
           rfl
          refine pure_ (i := 30) (N := some 60) (v := undef) (a' := ?_) #[o,o,o,o,o,o,o,o,o,o,o,o,o,o,o,o,o,o,o,o,o,o,o,o,o,o,o,o,o,o,o,z,z,z,z,z,z,z,z,z] rfl rfl (any_of HT_.out (by kernel_rfl)) (fun _ _ _ h => h) (Or.inr ⟨by rfl, rfl⟩) ?_ ?_
          rotate_left
          ·simp only [Act.put, qa, qb, qc, i64_w, i32_w]
           rfl
          refine pure_ (i := 31) (N := some 61) (v := undef) (a' := ?_) #[o,o,o,o,o,o,o,o,o,o,o,o,o,o,o,o,o,o,o,o,o,o,o,o,o,o,o,o,o,o,o,o,z,z,z,z,z,z,z,z] rfl rfl (any_of HT_.out (by kernel_rfl)) (fun _ _ _ h => h) (Or.inr ⟨by rfl, rfl⟩) ?_ ?_
          rotate_left
          ·simp only [Act.put, qa, qb, qc, i64_w, i32_w]
           rfl
          refine pure_ (i := 32) (N := some 62) (v := undef) (a' := ?_) #[o,o,o,o,o,o,o,o,o,o,o,o,o,o,o,o,o,o,o,o,o,o,o,o,o,o,o,o,o,o,o,o,o,z,z,z,z,z,z,z] rfl rfl (any_of HT_.out (by kernel_rfl)) (fun _ _ _ h => h) (Or.inr ⟨by rfl, rfl⟩) ?_ ?_
          rotate_left
          ·simp only [Act.put, qa, qb, qc, i64_w, i32_w]
           rfl
          refine pure_ (i := 33) (N := some 63) (v := undef) (a' := ?_) #[o,o,o,o,o,o,o,o,o,o,o,o,o,o,o,o,o,o,o,o,o,o,o,o,o,o,o,o,o,o,o,o,o,o,z,z,z,z,z,z] rfl rfl (any_of HT_.out (by kernel_rfl)) (fun _ _ _ h => h) (Or.inr ⟨by rfl, rfl⟩) ?_ ?_
          rotate_left
          ·simp only [Act.put, qa, qb, qc, i64_w, i32_w]
           rfl
          refine pure_ (i := 34) (N := some 64) (v := undef) (a' := ?_) #[o,o,o,o,o,o,o,o,o,o,o,o,o,o,o,o,o,o,o,o,o,o,o,o,o,o,o,o,o,o,o,o,o,o,o,z,z,z,z,z] rfl rfl (any_of HT_.out (by kernel_rfl)) (fun _ _ _ h => h) (Or.inr ⟨by rfl, rfl⟩) ?_ ?_
          rotate_left
          ·simp only [Act.put, qa, qb, qc, i64_w, i32_w]
           rfl
          refine pure_ (i := 35) (N := some 65) (v := undef) (a' := ?_) #[o,o,o,o,o,o,o,o,o,o,o,o,o,o,o,o,o,o,o,o,o,o,o,o,o,o,o,o,o,o,o,o,o,o,o,o,z,z,z,z] rfl rfl (any_of HT_.out (by kernel_rfl)) (fun _ _ _ h => h) (Or.inr ⟨by rfl, rfl⟩) ?_ ?_
          rotate_left
          ·simp only [Act.put, qa, qb, qc, i64_w, i32_w]
           rfl
          refine pure_ (i := 36) (N := some 66) (v := undef) (a' := ?_) #[o,o,o,o,o,o,o,o,o,o,o,o,o,o,o,o,o,o,o,o,o,o,o,o,o,o,o,o,o,o,o,o,o,o,o,o,o,z,z,z] rfl rfl (any_of HT_.out (by kernel_rfl)) (fun _ _ _ h => h) (Or.inr ⟨by rfl, rfl⟩) ?_ ?_
          rotate_left
          ·simp only [Act.put, qa, qb, qc, i64_w, i32_w]
           rfl
          refine pure_ (i := 37) (N := some 67) (v := undef) (a' := ?_) #[o,o,o,o,o,o,o,o,o,o,o,o,o,o,o,o,o,o,o,o,o,o,o,o,o,o,o,o,o,o,o,o,o,o,o,o,o,o,z,z] rfl rfl (any_of HT_.out (by kernel_rfl)) (fun _ _ _ h => h) (Or.inr ⟨by rfl, rfl⟩) ?_ ?_
          rotate_left
          ·simp only [Act.put, qa, qb, qc, i64_w, i32_w]
           rfl
          refine pure_ (i := 38) (N := some 68) (v := undef) (a' := ?_) #[o,o,o,o,o,o,o,o,o,o,o,o,o,o,o,o,o,o,o,o,o,o,o,o,o,o,o,o,o,o,o,o,o,o,o,o,o,o,o,z] rfl rfl (any_of HT_.out (by kernel_rfl)) (fun _ _ _ h => h) (Or.inr ⟨by rfl, rfl⟩) ?_ ?_
          rotate_left
          ·simp only [Act.put, qa, qb, qc, i64_w, i32_w]
           rfl
          refine pure_ (i := 39) (N := some 69) (v := ?_) (a' := ?_) #[o,o,o,o,o,o,o,o,o,o,o,o,o,o,o,o,o,o,o,o,o,o,o,o,o,o,o,o,o,o,o,o,o,o,o,o,o,o,o,o] rfl rfl (any_of HT_.out (by kernel_rfl)) (fun _ _ _ h => h) (Or.inl ⟨by rfl, ?_⟩) ?_ ?_
          rotate_left
          ·intro w'
           go_simp
           with_reducible rfl
          rotate_left
          ·simp only [Act.put, qa, qb, qc, i64_w, i32_w]
           rfl
          refine done_ (done_of HT_.out (by kernel_rfl)) ?_
          try go_wp2
          go_roundg k2
          case measure => have := HJ2.out; have := HK2.out; omega
          case rel => exact ⟨(wrap64 (x25_2 + 1)), (by first | rfl | (simp; done) | (simp [*]; done)), H', ⟨by have := HJ2.out; have := HK2.out; omega⟩, ⟨sB HB.out⟩⟩
         ·rw [if_neg c14] at H
          have c14b0 : (x25_2 == a1) = false := beq_eq_false_iff_ne.mpr c14
          have c14b1 : (x25_2 != a1) = true := bne_iff_ne.mpr c14
          replace H := Option.bind_eq_some_iff.mp H
          obtain ⟨t322, A190, H⟩ := H
          replace H : (if t322 = true then (if 0 ≤ a1 then (if a1 < (l0.length : Int) then ((impl_IsBefore.f k2 ((rd_T84 l0 x25_2).f0) ((rd_T84 l0 x25_2).f1) ((rd_T84 l0 x25_2).f2.f0) ((rd_T84 l0 x25_2).f2.f1) ((rd_T84 l0 x25_2).f3) ((rd_T84 l0 x25_2).f4) ((rd_T84 l0 x25_2).f5.f0) ((rd_T84 l0 x25_2).f5.f1) ((rd_T84 l0 a1).f0) ((rd_T84 l0 a1).f1) ((rd_T84 l0 a1).f2.f0) ((rd_T84 l0 a1).f2.f1) ((rd_T84 l0 a1).f3) ((rd_T84 l0 a1).f4) ((rd_T84 l0 a1).f5.f0) ((rd_T84 l0 a1).f5.f1)).bind fun t324 => (if t324 = true then ((impl_IsNarrower.f ((rd_T84 l0 a1).f2.f0) ((rd_T84 l0 a1).f2.f1) ((rd_T84 l0 x25_2).f2.f0) ((rd_T84 l0 x25_2).f2.f1)).bind fun t326 => (if t326 = true then (if ((rd_T84 l0 x25_2).f3) = 0 then (some true) else (if ((rd_T84 l0 x25_2).f3) = ((rd_T84 l0 a1).f3) then (some true) else (impl_IsShadowed.l0 k2 l0 a1 l0 (l0.length : Int) (wrap64 (x25_2 + 1))))) else (impl_IsShadowed.l0 k2 l0 a1 l0 (l0.length : Int) (wrap64 (x25_2 + 1))))) else (impl_IsShadowed.l0 k2 l0 a1 l0 (l0.length : Int) (wrap64 (x25_2 + 1))))) else (none)) else (none)) else (impl_IsShadowed.l0 k2 l0 a1 l0 (l0.length : Int) (wrap64 (x25_2 + 1)))) = some r := H
          have A19 := Aside0.mk A190
          clear A190
          by_cases c20 : t322 = true
          ·subst c20
           have H1 : (if 0 ≤ a1 then (if a1 < (l0.length : Int) then ((impl_IsBefore.f k2 ((rd_T84 l0 x25_2).f0) ((rd_T84 l0 x25_2).f1) ((rd_T84 l0 x25_2).f2.f0) ((rd_T84 l0 x25_2).f2.f1) ((rd_T84 l0 x25_2).f3) ((rd_T84 l0 x25_2).f4) ((rd_T84 l0 x25_2).f5.f0) ((rd_T84 l0 x25_2).f5.f1) ((rd_T84 l0 a1).f0) ((rd_T84 l0 a1).f1) ((rd_T84 l0 a1).f2.f0) ((rd_T84 l0 a1).f2.f1) ((rd_T84 l0 a1).f3) ((rd_T84 l0 a1).f4) ((rd_T84 l0 a1).f5.f0) ((rd_T84 l0 a1).f5.f1)).bind fun t324 => (if t324 = true then ((impl_IsNarrower.f ((rd_T84 l0 a1).f2.f0) ((rd_T84 l0 a1).f2.f1) ((rd_T84 l0 x25_2).f2.f0) ((rd_T84 l0 x25_2).f2.f1)).bind fun t326 => (if t326 = true then (if ((rd_T84 l0 x25_2).f3) = 0 then (some true) else (if ((rd_T84 l0 x25_2).f3) = ((rd_T84 l0 a1).f3) then (some true) else (impl_IsShadowed.l0 k2 l0 a1 l0 (l0.length : Int) (wrap64 (x25_2 + 1))))) else (impl_IsShadowed.l0 k2 l0 a1 l0 (l0.length : Int) (wrap64 (x25_2 + 1))))) else (impl_IsShadowed.l0 k2 l0 a1 l0 (l0.length : Int) (wrap64 (x25_2 + 1))))) else (none)) else (none)) = some r := by rw [if_pos rfl] at H; exact H
           clear H
           have H := H1
           clear H1
           by_cases c21 : 0 ≤ a1
           ·rw [if_pos c21] at H
            have c21b0 : decide (0 ≤ a1) = true := decide_eq_true c21
            clear c21
            by_cases c22 : a1 < (l0.length : Int)
            ·rw [if_pos c22] at H
             have c22b0 : decide (a1 < (l0.length : Int)) = true := decide_eq_true c22
             clear c22
             replace H := Option.bind_eq_some_iff.mp H
             obtain ⟨t324, A230, H⟩ := H
             replace H : (if t324 = true then ((impl_IsNarrower.f ((rd_T84 l0 a1).f2.f0) ((rd_T84 l0 a1).f2.f1) ((rd_T84 l0 x25_2).f2.f0) ((rd_T84 l0 x25_2).f2.f1)).bind fun t326 => (if t326 = true then (if ((rd_T84 l0 x25_2).f3) = 0 then (some true) else (if ((rd_T84 l0 x25_2).f3) = ((rd_T84 l0 a1).f3) then (some true) else (impl_IsShadowed.l0 k2 l0 a1 l0 (l0.length : Int) (wrap64 (x25_2 + 1))))) else (impl_IsShadowed.l0 k2 l0 a1 l0 (l0.length : Int) (wrap64 (x25_2 + 1))))) else (impl_IsShadowed.l0 k2 l0 a1 l0 (l0.length : Int) (wrap64 (x25_2 + 1)))) = some r := H
             have A23 := Aside0.mk A230
             clear A230
             by_cases c24 : t324 = true
             ·subst c24
              have H1 : ((impl_IsNarrower.f ((rd_T84 l0 a1).f2.f0) ((rd_T84 l0 a1).f2.f1) ((rd_T84 l0 x25_2).f2.f0) ((rd_T84 l0 x25_2).f2.f1)).bind fun t326 => (if t326 = true then (if ((rd_T84 l0 x25_2).f3) = 0 then (some true) else (if ((rd_T84 l0 x25_2).f3) = ((rd_T84 l0 a1).f3) then (some true) else (impl_IsShadowed.l0 k2 l0 a1 l0 (l0.length : Int) (wrap64 (x25_2 + 1))))) else (impl_IsShadowed.l0 k2 l0 a1 l0 (l0.length : Int) (wrap64 (x25_2 + 1))))) = some r := by rw [if_pos rfl] at H; exact H
              clear H
              have H := H1
              clear H1
              replace H := Option.bind_eq_some_iff.mp H
              obtain ⟨t326, A250, H⟩ := H
              replace H : (if t326 = true then (if ((rd_T84 l0 x25_2).f3) = 0 then (some true) else (if ((rd_T84 l0 x25_2).f3) = ((rd_T84 l0 a1).f3) then (some true) else (impl_IsShadowed.l0 k2 l0 a1 l0 (l0.length : Int) (wrap64 (x25_2 + 1))))) else (impl_IsShadowed.l0 k2 l0 a1 l0 (l0.length : Int) (wrap64 (x25_2 + 1)))) = some r := H
              have A25 := Aside0.mk A250
              clear A250
              by_cases c26 : t326 = true
              ·subst c26
               have H1 : (if ((rd_T84 l0 x25_2).f3) = 0 then (some true) else (if ((rd_T84 l0 x25_2).f3) = ((rd_T84 l0 a1).f3) then (some true) else (impl_IsShadowed.l0 k2 l0 a1 l0 (l0.length : Int) (wrap64 (x25_2 + 1))))) = some r := by rw [if_pos rfl] at H; exact H
               clear H
               have H := H1
               clear H1
               by_cases c27 : ((rd_T84 l0 x25_2).f3) = 0
               ·rw [if_pos c27] at H
                have c27b0 : (((rd_T84 l0 x25_2).f3) == 0) = true := beq_iff_eq.mpr c27
                have c27b1 : (((rd_T84 l0 x25_2).f3) != 0) = false := bne_eq_false_iff_eq.mpr c27
                clear c27
                obtain rfl := Option.some.inj H
                have p320 : 0 ≤ (x25_2 : Int) := of_decide_eq_true (by first | (with_reducible assumption) | assumption)
                have q320 : x25_2 < (l0.length : Int) := of_decide_eq_true (by first | (with_reducible assumption) | assumption)
                obtain ⟨ad320, e320, hx320_0, hx320_1, hx320_2, hx320_3, hx320_4, hx320_5, hx320_6, hx320_7⟩ := at_T84 HR0.out x25_2 p320 q320
                cases e320
                replace hx320_0 := hc_ HB hx320_0
                replace hx320_1 := hc_ HB hx320_1
                replace hx320_2 := hc_ HB hx320_2
                replace hx320_3 := hc_ HB hx320_3
                replace hx320_4 := hc_ HB hx320_4
                replace hx320_5 := hc_ HB hx320_5
                replace hx320_6 := hc_ HB hx320_6
                replace hx320_7 := hc_ HB hx320_7
                replace p320 := eq_true p320
                replace q320 := eq_true q320
                try go_wp2_with (first | ((with_reducible refine gate_dst (N := 6) rfl ?_); (try (refine gate_guard (by rfl) ?_; dsimp only)); refine box_event ?hg (N := 6) ?hd (cs := #[.int .i64 0, .int .i64 0, .int .i64 0, .int .i64 0, .int .i64 0, .int .i64 0, .int .i64 0, .int .i64 0]) (t := 84) ?hr ?_; (case hd => rfl); (case hg => rfl); (case hr => first | (go_simp; done) | (go_simp; rfl)); intro gb321 hg w28 hbox hb; have q_ := hbx_ (sB HB.out) hg hb; have n0_ := q_.1; have n1_ := am (hbox); have n2_ := q_.2; have n3_ := n2_; clear HB; have HB := n0_; have BK321 := n1_; have GW321 := n2_; have GE321 := n3_; clear n0_ n1_ n2_ n3_ hb hbox hg; obtain ⟨hcz29_0, hcz29_1, hcz29_2, hcz29_3, hcz29_4, hcz29_5, hcz29_6, hcz29_7, hfz29_0, hfz29_1, hfz29_2, hfz29_3, hfz29_4, hfz29_5, hfz29_6, hfz29_7⟩ := blk8 BK321.out))
                have n0_ : Aside0 (((((((((w28.setCell ⟨gb321, 0, none⟩ (.int .i64 ((rd_T84 l0 x25_2).f0))).setCell ⟨gb321, 1, none⟩ (.int .i64 ((rd_T84 l0 x25_2).f1))).setCell ⟨gb321, 2, none⟩ (.int .i64 ((rd_T84 l0 x25_2).f2.f0))).setCell ⟨gb321, 3, none⟩ (.int .i64 ((rd_T84 l0 x25_2).f2.f1))).setCell ⟨gb321, 4, none⟩ (.int .i64 ((rd_T84 l0 x25_2).f3))).setCell ⟨gb321, 5, none⟩ (.int .i64 ((rd_T84 l0 x25_2).f4))).setCell ⟨gb321, 6, none⟩ (.int .i64 ((rd_T84 l0 x25_2).f5.f0))).setCell ⟨gb321, 7, none⟩ (.int .i64 ((rd_T84 l0 x25_2).f5.f1))).heap[gb321]? = some (.cells #[.int .i64 ((rd_T84 l0 x25_2).f0), .int .i64 ((rd_T84 l0 x25_2).f1), .int .i64 ((rd_T84 l0 x25_2).f2.f0), .int .i64 ((rd_T84 l0 x25_2).f2.f1), .int .i64 ((rd_T84 l0 x25_2).f3), .int .i64 ((rd_T84 l0 x25_2).f4), .int .i64 ((rd_T84 l0 x25_2).f5.f0), .int .i64 ((rd_T84 l0 x25_2).f5.f1)] 84 (0, 0))) := ⟨by refine bB ?_; refine blk_put (cs := #[.int .i64 ((rd_T84 l0 x25_2).f0), .int .i64 ((rd_T84 l0 x25_2).f1), .int .i64 ((rd_T84 l0 x25_2).f2.f0), .int .i64 ((rd_T84 l0 x25_2).f2.f1), .int .i64 ((rd_T84 l0 x25_2).f3), .int .i64 ((rd_T84 l0 x25_2).f4), .int .i64 ((rd_T84 l0 x25_2).f5.f0), .int .i64 0]) ?_ 7 _ rfl; refine bB ?_; refine blk_put (cs := #[.int .i64 ((rd_T84 l0 x25_2).f0), .int .i64 ((rd_T84 l0 x25_2).f1), .int .i64 ((rd_T84 l0 x25_2).f2.f0), .int .i64 ((rd_T84 l0 x25_2).f2.f1), .int .i64 ((rd_T84 l0 x25_2).f3), .int .i64 ((rd_T84 l0 x25_2).f4), .int .i64 0, .int .i64 0]) ?_ 6 _ rfl; refine bB ?_; refine blk_put (cs := #[.int .i64 ((rd_T84 l0 x25_2).f0), .int .i64 ((rd_T84 l0 x25_2).f1), .int .i64 ((rd_T84 l0 x25_2).f2.f0), .int .i64 ((rd_T84 l0 x25_2).f2.f1), .int .i64 ((rd_T84 l0 x25_2).f3), .int .i64 0, .int .i64 0, .int .i64 0]) ?_ 5 _ rfl; refine bB ?_; refine blk_put (cs := #[.int .i64 ((rd_T84 l0 x25_2).f0), .int .i64 ((rd_T84 l0 x25_2).f1), .int .i64 ((rd_T84 l0 x25_2).f2.f0), .int .i64 ((rd_T84 l0 x25_2).f2.f1), .int .i64 0, .int .i64 0, .int .i64 0, .int .i64 0]) ?_ 4 _ rfl; refine bB ?_; refine blk_put (cs := #[.int .i64 ((rd_T84 l0 x25_2).f0), .int .i64 ((rd_T84 l0 x25_2).f1), .int .i64 ((rd_T84 l0 x25_2).f2.f0), .int .i64 0, .int .i64 0, .int .i64 0, .int .i64 0, .int .i64 0]) ?_ 3 _ rfl; refine bB ?_; refine blk_put (cs := #[.int .i64 ((rd_T84 l0 x25_2).f0), .int .i64 ((rd_T84 l0 x25_2).f1), .int .i64 0, .int .i64 0, .int .i64 0, .int .i64 0, .int .i64 0, .int .i64 0]) ?_ 2 _ rfl; refine bB ?_; refine blk_put (cs := #[.int .i64 ((rd_T84 l0 x25_2).f0), .int .i64 0, .int .i64 0, .int .i64 0, .int .i64 0, .int .i64 0, .int .i64 0, .int .i64 0]) ?_ 1 _ rfl; refine bB ?_; refine blk_put (cs := #[.int .i64 0, .int .i64 0, .int .i64 0, .int .i64 0, .int .i64 0, .int .i64 0, .int .i64 0, .int .i64 0]) ?_ 0 _ rfl; refine bB ?_; exact BK321.out⟩
                have n1_ : Aside0 (Below w.heap.size w ((((((((w28.setCell ⟨gb321, 0, none⟩ (.int .i64 ((rd_T84 l0 x25_2).f0))).setCell ⟨gb321, 1, none⟩ (.int .i64 ((rd_T84 l0 x25_2).f1))).setCell ⟨gb321, 2, none⟩ (.int .i64 ((rd_T84 l0 x25_2).f2.f0))).setCell ⟨gb321, 3, none⟩ (.int .i64 ((rd_T84 l0 x25_2).f2.f1))).setCell ⟨gb321, 4, none⟩ (.int .i64 ((rd_T84 l0 x25_2).f3))).setCell ⟨gb321, 5, none⟩ (.int .i64 ((rd_T84 l0 x25_2).f4))).setCell ⟨gb321, 6, none⟩ (.int .i64 ((rd_T84 l0 x25_2).f5.f0))).setCell ⟨gb321, 7, none⟩ (.int .i64 ((rd_T84 l0 x25_2).f5.f1)))) := ⟨sB HB.out⟩
                (try clear BK321)
                (try clear HB)
                generalize ((((((((w28.setCell ⟨gb321, 0, none⟩ (.int .i64 ((rd_T84 l0 x25_2).f0))).setCell ⟨gb321, 1, none⟩ (.int .i64 ((rd_T84 l0 x25_2).f1))).setCell ⟨gb321, 2, none⟩ (.int .i64 ((rd_T84 l0 x25_2).f2.f0))).setCell ⟨gb321, 3, none⟩ (.int .i64 ((rd_T84 l0 x25_2).f2.f1))).setCell ⟨gb321, 4, none⟩ (.int .i64 ((rd_T84 l0 x25_2).f3))).setCell ⟨gb321, 5, none⟩ (.int .i64 ((rd_T84 l0 x25_2).f4))).setCell ⟨gb321, 6, none⟩ (.int .i64 ((rd_T84 l0 x25_2).f5.f0))).setCell ⟨gb321, 7, none⟩ (.int .i64 ((rd_T84 l0 x25_2).f5.f1))) = w30 at n0_ n1_ ⊢
                have BK321 := n0_
                have HB := n1_
                clear n0_ n1_
                replace BK321 := am (blk_drew BK321.out)
                replace HB := am (below_drew1 HB.out)
                have p323 : 0 ≤ (a1 : Int) := of_decide_eq_true (by first | (with_reducible assumption) | assumption)
                have q323 : a1 < (l0.length : Int) := of_decide_eq_true (by first | (with_reducible assumption) | assumption)
                obtain ⟨ad323, e323, hx323_0, hx323_1, hx323_2, hx323_3, hx323_4, hx323_5, hx323_6, hx323_7⟩ := at_T84 HR0.out a1 p323 q323
                have hw323_7 := hx323_7
                have hw323_6 := hx323_6
                have hw323_5 := hx323_5
                have hw323_4 := hx323_4
                have hw323_3 := hx323_3
                have hw323_2 := hx323_2
                have hw323_1 := hx323_1
                have hw323_0 := hx323_0
                obtain rfl : ad320 = ad323 := (by injection e323)
                replace hx323_0 := hc_ HB hx323_0
                replace hx323_1 := hc_ HB hx323_1
                replace hx323_2 := hc_ HB hx323_2
                replace hx323_3 := hc_ HB hx323_3
                replace hx323_4 := hc_ HB hx323_4
                replace hx323_5 := hc_ HB hx323_5
                replace hx323_6 := hc_ HB hx323_6
                replace hx323_7 := hc_ HB hx323_7
                replace p323 := eq_true p323
                replace q323 := eq_true q323
                have p325 : 0 ≤ (a1 : Int) := of_decide_eq_true (by first | (with_reducible assumption) | assumption)
                have q325 : a1 < (l0.length : Int) := of_decide_eq_true (by first | (with_reducible assumption) | assumption)
                obtain ⟨ad325, e325, hx325_0, hx325_1, hx325_2, hx325_3, hx325_4, hx325_5, hx325_6, hx325_7⟩ := at_T84 HR0.out a1 p325 q325
                have hw325_7 := hx325_7
                have hw325_6 := hx325_6
                have hw325_5 := hx325_5
                have hw325_4 := hx325_4
                have hw325_3 := hx325_3
                have hw325_2 := hx325_2
                have hw325_1 := hx325_1
                have hw325_0 := hx325_0
                obtain rfl : ad320 = ad325 := (by injection e325)
                replace hx325_0 := hc_ HB hx325_0
                replace hx325_1 := hc_ HB hx325_1
                replace hx325_2 := hc_ HB hx325_2
                replace hx325_3 := hc_ HB hx325_3
                replace hx325_4 := hc_ HB hx325_4
                replace hx325_5 := hc_ HB hx325_5
                replace hx325_6 := hc_ HB hx325_6
                replace hx325_7 := hc_ HB hx325_7
                replace p325 := eq_true p325
                replace q325 := eq_true q325
                refine start_ (n := 40) (S := fun w' => w'.cell? ⟨gb321, 0, none⟩ = some (.int .i64 ((rd_T84 l0 x25_2).f0)) ∧ w'.cell? ⟨gb321, 1, none⟩ = some (.int .i64 ((rd_T84 l0 x25_2).f1)) ∧ w'.cell? ⟨gb321, 2, none⟩ = some (.int .i64 ((rd_T84 l0 x25_2).f2.f0)) ∧ w'.cell? ⟨gb321, 3, none⟩ = some (.int .i64 ((rd_T84 l0 x25_2).f2.f1)) ∧ w'.cell? ⟨gb321, 4, none⟩ = some (.int .i64 ((rd_T84 l0 x25_2).f3)) ∧ w'.cell? ⟨gb321, 5, none⟩ = some (.int .i64 ((rd_T84 l0 x25_2).f4)) ∧ w'.cell? ⟨gb321, 6, none⟩ = some (.int .i64 ((rd_T84 l0 x25_2).f5.f0)) ∧ w'.cell? ⟨gb321, 7, none⟩ = some (.int .i64 ((rd_T84 l0 x25_2).f5.f1)) ∧ w'.cell? (ad320.add ((a1).toNat * 8)) = some (.int .i64 ((rd_T84 l0 a1).f0)) ∧ w'.cell? ⟨(ad320.add ((a1).toNat * 8)).block, (ad320.add ((a1).toNat * 8)).off + 1, none⟩ = some (.int .i64 ((rd_T84 l0 a1).f1)) ∧ w'.cell? ⟨(ad320.add ((a1).toNat * 8)).block, (ad320.add ((a1).toNat * 8)).off + 2, none⟩ = some (.int .i64 ((rd_T84 l0 a1).f2.f0)) ∧ w'.cell? ⟨(ad320.add ((a1).toNat * 8)).block, (ad320.add ((a1).toNat * 8)).off + 3, none⟩ = some (.int .i64 ((rd_T84 l0 a1).f2.f1)) ∧ w'.cell? ⟨(ad320.add ((a1).toNat * 8)).block, (ad320.add ((a1).toNat * 8)).off + 4, none⟩ = some (.int .i64 ((rd_T84 l0 a1).f3)) ∧ w'.cell? ⟨(ad320.add ((a1).toNat * 8)).block, (ad320.add ((a1).toNat * 8)).off + 5, none⟩ = some (.int .i64 ((rd_T84 l0 a1).f4)) ∧ w'.cell? ⟨(ad320.add ((a1).toNat * 8)).block, (ad320.add ((a1).toNat * 8)).off + 6, none⟩ = some (.int .i64 ((rd_T84 l0 a1).f5.f0)) ∧ w'.cell? ⟨(ad320.add ((a1).toNat * 8)).block, (ad320.add ((a1).toNat * 8)).off + 7, none⟩ = some (.int .i64 ((rd_T84 l0 a1).f5.f1)) ∧ w'.cell? (ad320.add ((a1).toNat * 8)) = some (.int .i64 ((rd_T84 l0 a1).f0)) ∧ w'.cell? ⟨(ad320.add ((a1).toNat * 8)).block, (ad320.add ((a1).toNat * 8)).off + 1, none⟩ = some (.int .i64 ((rd_T84 l0 a1).f1)) ∧ w'.cell? ⟨(ad320.add ((a1).toNat * 8)).block, (ad320.add ((a1).toNat * 8)).off + 2, none⟩ = some (.int .i64 ((rd_T84 l0 a1).f2.f0)) ∧ w'.cell? ⟨(ad320.add ((a1).toNat * 8)).block, (ad320.add ((a1).toNat * 8)).off + 3, none⟩ = some (.int .i64 ((rd_T84 l0 a1).f2.f1)) ∧ w'.cell? ⟨(ad320.add ((a1).toNat * 8)).block, (ad320.add ((a1).toNat * 8)).off + 4, none⟩ = some (.int .i64 ((rd_T84 l0 a1).f3)) ∧ w'.cell? ⟨(ad320.add ((a1).toNat * 8)).block, (ad320.add ((a1).toNat * 8)).off + 5, none⟩ = some (.int .i64 ((rd_T84 l0 a1).f4)) ∧ w'.cell? ⟨(ad320.add ((a1).toNat * 8)).block, (ad320.add ((a1).toNat * 8)).off + 6, none⟩ = some (.int .i64 ((rd_T84 l0 a1).f5.f0)) ∧ w'.cell? ⟨(ad320.add ((a1).toNat * 8)).block, (ad320.add ((a1).toNat * 8)).off + 7, none⟩ = some (.int .i64 ((rd_T84 l0 a1).f5.f1))) (ds := []) #[z,z,z,z,z,z,z,z,z,z,z,z,z,z,z,z,z,z,z,z,z,z,z,z,z,z,z,z,z,z,z,z,z,z,z,z,z,z,z,z] (by kernel_rfl) rfl rfl ⟨(blk_cell BK321.out 0).trans rfl, (blk_cell BK321.out 1).trans rfl, (blk_cell BK321.out 2).trans rfl, (blk_cell BK321.out 3).trans rfl, (blk_cell BK321.out 4).trans rfl, (blk_cell BK321.out 5).trans rfl, (blk_cell BK321.out 6).trans rfl, (blk_cell BK321.out 7).trans rfl, (hc_ HB hw323_0), (hc_ HB hw323_1), (hc_ HB hw323_2), (hc_ HB hw323_3), (hc_ HB hw323_4), (hc_ HB hw323_5), (hc_ HB hw323_6), (hc_ HB hw323_7), (hc_ HB hw325_0), (hc_ HB hw325_1), (hc_ HB hw325_2), (hc_ HB hw325_3), (hc_ HB hw325_4), (hc_ HB hw325_5), (hc_ HB hw325_6), (hc_ HB hw325_7)⟩ (fun hHeld => ?_); refine with_tabW impl_IsShadowed.tab6 impl_IsShadowed.bits6 (fun HT_ HW_ => ?_)
                generalize w30.drew = w31 at BK321 HB hx323_0 hx323_1 hx323_2 hx323_3 hx323_4 hx323_5 hx323_6 hx323_7 hx325_0 hx325_1 hx325_2 hx325_3 hx325_4 hx325_5 hx325_6 hx325_7 hHeld ⊢
                refine pure_ (i := 0) (N := some 30) (v := ?_) (a' := ?_) #[o,z,z,z,z,z,z,z,z,z,z,z,z,z,z,z,z,z,z,z,z,z,z,z,z,z,z,z,z,z,z,z,z,z,z,z,z,z,z,z] rfl rfl (any_of HT_.out (by kernel_rfl)) (fun _ _ _ h => h) (Or.inl ⟨by rfl, ?_⟩) ?_ ?_
                rotate_left
                ·intro w'
                 go_simp
                 with_reducible rfl
                rotate_left
                ·simp only [Act.put, qa, qb, qc, i64_w, i32_w]
                 rfl
                refine pure_ (i := 1) (N := some 31) (v := ?_) (a' := ?_) #[o,o,z,z,z,z,z,z,z,z,z,z,z,z,z,z,z,z,z,z,z,z,z,z,z,z,z,z,z,z,z,z,z,z,z,z,z,z,z,z] rfl rfl (any_of HT_.out (by kernel_rfl)) (fun _ _ _ h => h) (Or.inl ⟨by rfl, ?_⟩) ?_ ?_
                rotate_left
                ·intro w'
                 go_simp
                 with_reducible rfl
                rotate_left
                ·simp only [Act.put, qa, qb, qc, i64_w, i32_w]
                 rfl
                refine pure_ (i := 2) (N := some 32) (v := ?_) (a' := ?_) #[o,o,o,z,z,z,z,z,z,z,z,z,z,z,z,z,z,z,z,z,z,z,z,z,z,z,z,z,z,z,z,z,z,z,z,z,z,z,z,z] rfl rfl (any_of HT_.out (by kernel_rfl)) (fun _ _ _ h => h) (Or.inl ⟨by rfl, ?_⟩) ?_ ?_
                rotate_left
                ·intro w'
                 go_simp
                 with_reducible rfl
                rotate_left
                ·simp only [Act.put, qa, qb, qc, i64_w, i32_w]
                 rfl
                refine pure_ (i := 3) (N := some 33) (v := ?_) (a' := ?_) #[o,o,o,o,z,z,z,z,z,z,z,z,z,z,z,z,z,z,z,z,z,z,z,z,z,z,z,z,z,z,z,z,z,z,z,z,z,z,z,z] rfl rfl (any_of HT_.out (by kernel_rfl)) (fun _ _ _ h => h) (Or.inl ⟨by rfl, ?_⟩) ?_ ?_
                rotate_left
                ·intro w'
                 go_simp
                 with_reducible rfl
                rotate_left
                ·simp only [Act.put, qa, qb, qc, i64_w, i32_w]
                 rfl
                refine take_ (i := 4) (N := some 34) (v := ?_) (a' := ?_) #[o,o,o,o,o,z,z,z,z,z,z,z,z,z,z,z,z,z,z,z,z,z,z,z,z,z,z,z,z,z,z,z,z,z,z,z,z,z,z,z] rfl rfl (take_ofW HT_.out HW_.out (by kernel_rfl)) (fun _ _ _ h => h) (Or.inl ⟨by rfl, ?_⟩) hHeld ?_ ?_
                rotate_left
                ·rintro w' ⟨s0, s1, s2, s3, s4, s5, s6, s7, s8, s9, s10, s11, s12, s13, s14, s15, s16, s17, s18, s19, s20, s21, s22, s23⟩
                 go_simp
                 with_reducible rfl
                rotate_left
                ·simp only [Act.put, qa, qb, qc, i64_w, i32_w]
                 rfl
                refine one_ (i := 5) (N := some 35) #[o,o,o,o,o,o,z,z,z,z,z,z,z,z,z,z,z,z,z,z,z,z,z,z,z,z,z,z,z,z,z,z,z,z,z,z,z,z,z,z] rfl rfl (one_of HT_.out (by kernel_rfl)) (by decide) (fun K hK => ?_)
                refine goes_ Try.func56 (by kernel_rfl) rfl #[.agg #[.int .i64 ((rd_T84 l0 x25_2).f0), .int .i64 ((rd_T84 l0 x25_2).f1), .int .i64 ((rd_T84 l0 x25_2).f2.f0), .int .i64 ((rd_T84 l0 x25_2).f2.f1), .int .i64 ((rd_T84 l0 x25_2).f3), .int .i64 ((rd_T84 l0 x25_2).f4), .int .i64 ((rd_T84 l0 x25_2).f5.f0), .int .i64 ((rd_T84 l0 x25_2).f5.f1)]] (by rfl) rfl rfl (by (try simp only [List.map_toArray, List.map_cons, List.map_nil]); first | done | rfl | (simp only [List.length_drop, List.length_take]; rfl)) ?_
                with_reducible refine (impl_IsRule.calls k2 ((rd_T84 l0 x25_2).f0) ((rd_T84 l0 x25_2).f1) ((rd_T84 l0 x25_2).f2.f0) ((rd_T84 l0 x25_2).f2.f1) ((rd_T84 l0 x25_2).f3) ((rd_T84 l0 x25_2).f4) ((rd_T84 l0 x25_2).f5.f0) ((rd_T84 l0 x25_2).f5.f1) true _ A19.out).mono ?_
                rintro e w32 ⟨rfl, hb⟩
                refine ⟨_, rfl, ?_⟩
                replace BK321 := am (blk_below (bB BK321.out) hb)
                replace HB := am (below_step (sB HB.out) hb)
                (try clear hb)
                (try clear hb2)
                (try clear hk)
                (try clear hi)
                refine hK.out _ _ ⟨(blk_cell BK321.out 0).trans rfl, (blk_cell BK321.out 1).trans rfl, (blk_cell BK321.out 2).trans rfl, (blk_cell BK321.out 3).trans rfl, (blk_cell BK321.out 4).trans rfl, (blk_cell BK321.out 5).trans rfl, (blk_cell BK321.out 6).trans rfl, (blk_cell BK321.out 7).trans rfl, (hc_ HB hw323_0), (hc_ HB hw323_1), (hc_ HB hw323_2), (hc_ HB hw323_3), (hc_ HB hw323_4), (hc_ HB hw323_5), (hc_ HB hw323_6), (hc_ HB hw323_7), (hc_ HB hw325_0), (hc_ HB hw325_1), (hc_ HB hw325_2), (hc_ HB hw325_3), (hc_ HB hw325_4), (hc_ HB hw325_5), (hc_ HB hw325_6), (hc_ HB hw325_7)⟩ (fun hHeld => ?_)
                clear hK K
                refine norm_ (a' := ?_) ?_ ?_
                rotate_left
                ·show Act.put _ (some 35) _ = _
                 simp only [Act.put, qa, qb, qc, i64_w, i32_w]
                 rfl
                refine pure_ (i := 6) (N := some 36) (v := ?_) (a' := ?_) #[o,o,o,o,o,o,o,z,z,z,z,z,z,z,z,z,z,z,z,z,z,z,z,z,z,z,z,z,z,z,z,z,z,z,z,z,z,z,z,z] rfl rfl (any_of HT_.out (by kernel_rfl)) (fun _ _ _ h => h) (Or.inl ⟨by rfl, ?_⟩) ?_ ?_
                rotate_left
                ·intro w'
                 go_simp
                 with_reducible rfl
                rotate_left
                ·simp only [Act.put, qa, qb, qc, i64_w, i32_w]
                 rfl
                refine pure_ (i := 7) (N := some 37) (v := ?_) (a' := ?_) #[o,o,o,o,o,o,o,o,z,z,z,z,z,z,z,z,z,z,z,z,z,z,z,z,z,z,z,z,z,z,z,z,z,z,z,z,z,z,z,z] rfl rfl (any_of HT_.out (by kernel_rfl)) (fun _ _ _ h => h) (Or.inl ⟨by rfl, ?_⟩) ?_ ?_
                rotate_left
                ·intro w'
                 go_simp
                 with_reducible rfl
                rotate_left
                ·simp only [Act.put, qa, qb, qc, i64_w, i32_w]
                 rfl
                refine pure_ (i := 9) (N := some 39) (v := ?_) (a' := ?_) #[o,o,o,o,o,o,o,o,z,o,z,z,z,z,z,z,z,z,z,z,z,z,z,z,z,z,z,z,z,z,z,z,z,z,z,z,z,z,z,z] rfl rfl (any_of HT_.out (by kernel_rfl)) (fun _ _ _ h => h) (Or.inl ⟨by rfl, ?_⟩) ?_ ?_
                rotate_left
                ·intro w'
                 go_simp
                 with_reducible rfl
                rotate_left
                ·simp only [Act.put, qa, qb, qc, i64_w, i32_w]
                 rfl
                refine pure_ (i := 10) (N := some 40) (v := ?_) (a' := ?_) #[o,o,o,o,o,o,o,o,z,o,o,z,z,z,z,z,z,z,z,z,z,z,z,z,z,z,z,z,z,z,z,z,z,z,z,z,z,z,z,z] rfl rfl (any_of HT_.out (by kernel_rfl)) (fun _ _ _ h => h) (Or.inl ⟨by rfl, ?_⟩) ?_ ?_
                rotate_left
                ·intro w'
                 go_simp
                 with_reducible rfl
                rotate_left
                ·simp only [Act.put, qa, qb, qc, i64_w, i32_w]
                 rfl
                refine pure_ (i := 11) (N := some 41) (v := ?_) (a' := ?_) #[o,o,o,o,o,o,o,o,z,o,o,o,z,z,z,z,z,z,z,z,z,z,z,z,z,z,z,z,z,z,z,z,z,z,z,z,z,z,z,z] rfl rfl (any_of HT_.out (by kernel_rfl)) (fun _ _ _ h => h) (Or.inl ⟨by rfl, ?_⟩) ?_ ?_
                rotate_left
                ·intro w'
                 go_simp
                 with_reducible rfl
                rotate_left
                ·simp only [Act.put, qa, qb, qc, i64_w, i32_w]
                 rfl
                refine take_ (i := 8) (N := some 38) (v := ?_) (a' := ?_) #[o,o,o,o,o,o,o,o,o,o,o,o,z,z,z,z,z,z,z,z,z,z,z,z,z,z,z,z,z,z,z,z,z,z,z,z,z,z,z,z] rfl rfl (take_ofW HT_.out HW_.out (by kernel_rfl)) (fun _ _ _ h => h) (Or.inl ⟨by rfl, ?_⟩) hHeld ?_ ?_
                rotate_left
                ·rintro w' ⟨s0, s1, s2, s3, s4, s5, s6, s7, s8, s9, s10, s11, s12, s13, s14, s15, s16, s17, s18, s19, s20, s21, s22, s23⟩
                 go_simp
                 with_reducible rfl
                rotate_left
                ·simp only [Act.put, qa, qb, qc, i64_w, i32_w]
                 rfl
                refine take_ (i := 12) (N := some 42) (v := ?_) (a' := ?_) #[o,o,o,o,o,o,o,o,o,o,o,o,o,z,z,z,z,z,z,z,z,z,z,z,z,z,z,z,z,z,z,z,z,z,z,z,z,z,z,z] rfl rfl (take_ofW HT_.out HW_.out (by kernel_rfl)) (fun _ _ _ h => h) (Or.inl ⟨by rfl, ?_⟩) hHeld ?_ ?_
                rotate_left
                ·rintro w' ⟨s0, s1, s2, s3, s4, s5, s6, s7, s8, s9, s10, s11, s12, s13, s14, s15, s16, s17, s18, s19, s20, s21, s22, s23⟩
                 go_simp
                 with_reducible rfl
                rotate_left
                ·simp only [Act.put, qa, qb, qc, i64_w, i32_w]
                 rfl
                refine one_ (i := 13) (N := some 43) #[o,o,o,o,o,o,o,o,o,o,o,o,o,o,z,z,z,z,z,z,z,z,z,z,z,z,z,z,z,z,z,z,z,z,z,z,z,z,z,z] rfl rfl (one_of HT_.out (by kernel_rfl)) (by decide) (fun K hK => ?_)
                refine goes_ Try.func53 (by kernel_rfl) rfl #[.agg #[.int .i64 ((rd_T84 l0 x25_2).f0), .int .i64 ((rd_T84 l0 x25_2).f1), .int .i64 ((rd_T84 l0 x25_2).f2.f0), .int .i64 ((rd_T84 l0 x25_2).f2.f1), .int .i64 ((rd_T84 l0 x25_2).f3), .int .i64 ((rd_T84 l0 x25_2).f4), .int .i64 ((rd_T84 l0 x25_2).f5.f0), .int .i64 ((rd_T84 l0 x25_2).f5.f1)], .agg #[.int .i64 ((rd_T84 l0 a1).f0), .int .i64 ((rd_T84 l0 a1).f1), .int .i64 ((rd_T84 l0 a1).f2.f0), .int .i64 ((rd_T84 l0 a1).f2.f1), .int .i64 ((rd_T84 l0 a1).f3), .int .i64 ((rd_T84 l0 a1).f4), .int .i64 ((rd_T84 l0 a1).f5.f0), .int .i64 ((rd_T84 l0 a1).f5.f1)]] (by rfl) rfl rfl (by (try simp only [List.map_toArray, List.map_cons, List.map_nil]); first | done | rfl | (simp only [List.length_drop, List.length_take]; rfl)) ?_
                with_reducible refine (impl_IsBefore.calls k2 ((rd_T84 l0 x25_2).f0) ((rd_T84 l0 x25_2).f1) ((rd_T84 l0 x25_2).f2.f0) ((rd_T84 l0 x25_2).f2.f1) ((rd_T84 l0 x25_2).f3) ((rd_T84 l0 x25_2).f4) ((rd_T84 l0 x25_2).f5.f0) ((rd_T84 l0 x25_2).f5.f1) ((rd_T84 l0 a1).f0) ((rd_T84 l0 a1).f1) ((rd_T84 l0 a1).f2.f0) ((rd_T84 l0 a1).f2.f1) ((rd_T84 l0 a1).f3) ((rd_T84 l0 a1).f4) ((rd_T84 l0 a1).f5.f0) ((rd_T84 l0 a1).f5.f1) true _ A23.out).mono ?_
                rintro e w33 ⟨rfl, hb⟩
                refine ⟨_, rfl, ?_⟩
                replace BK321 := am (blk_below (bB BK321.out) hb)
                replace HB := am (below_step (sB HB.out) hb)
                (try clear hb)
                (try clear hb2)
                (try clear hk)
                (try clear hi)
                refine hK.out _ _ ⟨(blk_cell BK321.out 0).trans rfl, (blk_cell BK321.out 1).trans rfl, (blk_cell BK321.out 2).trans rfl, (blk_cell BK321.out 3).trans rfl, (blk_cell BK321.out 4).trans rfl, (blk_cell BK321.out 5).trans rfl, (blk_cell BK321.out 6).trans rfl, (blk_cell BK321.out 7).trans rfl, (hc_ HB hw323_0), (hc_ HB hw323_1), (hc_ HB hw323_2), (hc_ HB hw323_3), (hc_ HB hw323_4), (hc_ HB hw323_5), (hc_ HB hw323_6), (hc_ HB hw323_7), (hc_ HB hw325_0), (hc_ HB hw325_1), (hc_ HB hw325_2), (hc_ HB hw325_3), (hc_ HB hw325_4), (hc_ HB hw325_5), (hc_ HB hw325_6), (hc_ HB hw325_7)⟩ (fun hHeld => ?_)
                clear hK K
                refine norm_ (a' := ?_) ?_ ?_
                rotate_left
                ·show Act.put _ (some 43) _ = _
                 simp only [Act.put, qa, qb, qc, i64_w, i32_w]
                 rfl
                refine pure_ (i := 14) (N := some 44) (v := ?_) (a' := ?_) #[o,o,o,o,o,o,o,o,o,o,o,o,o,o,o,z,z,z,z,z,z,z,z,z,z,z,z,z,z,z,z,z,z,z,z,z,z,z,z,z] rfl rfl (any_of HT_.out (by kernel_rfl)) (fun _ _ _ h => h) (Or.inl ⟨by rfl, ?_⟩) ?_ ?_
                rotate_left
                ·intro w'
                 go_simp
                 with_reducible rfl
                rotate_left
                ·simp only [Act.put, qa, qb, qc, i64_w, i32_w]
                 rfl
                refine pure_ (i := 15) (N := some 45) (v := ?_) (a' := ?_) #[o,o,o,o,o,o,o,o,o,o,o,o,o,o,o,o,z,z,z,z,z,z,z,z,z,z,z,z,z,z,z,z,z,z,z,z,z,z,z,z] rfl rfl (any_of HT_.out (by kernel_rfl)) (fun _ _ _ h => h) (Or.inl ⟨by rfl, ?_⟩) ?_ ?_
                rotate_left
                ·intro w'
                 go_simp
                 with_reducible rfl
                rotate_left
                ·simp only [Act.put, qa, qb, qc, i64_w, i32_w]
                 rfl
                refine pure_ (i := 16) (N := some 46) (v := ?_) (a' := ?_) #[o,o,o,o,o,o,o,o,o,o,o,o,o,o,o,o,o,z,z,z,z,z,z,z,z,z,z,z,z,z,z,z,z,z,z,z,z,z,z,z] rfl rfl (any_of HT_.out (by kernel_rfl)) (fun _ _ _ h => h) (Or.inl ⟨by rfl, ?_⟩) ?_ ?_
                rotate_left
                ·intro w'
                 go_simp
                 with_reducible rfl
                rotate_left
                ·simp only [Act.put, qa, qb, qc, i64_w, i32_w]
                 rfl
                refine pure_ (i := 17) (N := some 47) (v := ?_) (a' := ?_) #[o,o,o,o,o,o,o,o,o,o,o,o,o,o,o,o,o,o,z,z,z,z,z,z,z,z,z,z,z,z,z,z,z,z,z,z,z,z,z,z] rfl rfl (any_of HT_.out (by kernel_rfl)) (fun _ _ _ h => h) (Or.inl ⟨by rfl, ?_⟩) ?_ ?_
                rotate_left
                ·intro w'
                 go_simp
                 with_reducible rfl
                rotate_left
                ·simp only [Act.put, qa, qb, qc, i64_w, i32_w]
                 rfl
                refine pure_ (i := 18) (N := some 48) (v := ?_) (a' := ?_) #[o,o,o,o,o,o,o,o,o,o,o,o,o,o,o,o,o,o,o,z,z,z,z,z,z,z,z,z,z,z,z,z,z,z,z,z,z,z,z,z] rfl rfl (any_of HT_.out (by kernel_rfl)) (fun _ _ _ h => h) (Or.inl ⟨by rfl, ?_⟩) ?_ ?_
                rotate_left
                ·intro w'
                 go_simp
                 with_reducible rfl
                rotate_left
                ·simp only [Act.put, qa, qb, qc, i64_w, i32_w]
                 rfl
                refine pure_ (i := 19) (N := some 49) (v := ?_) (a' := ?_) #[o,o,o,o,o,o,o,o,o,o,o,o,o,o,o,o,o,o,o,o,z,z,z,z,z,z,z,z,z,z,z,z,z,z,z,z,z,z,z,z] rfl rfl (any_of HT_.out (by kernel_rfl)) (fun _ _ _ h => h) (Or.inl ⟨by rfl, ?_⟩) ?_ ?_
                rotate_left
                ·intro w'
                 go_simp
                 with_reducible rfl
                rotate_left
                ·simp only [Act.put, qa, qb, qc, i64_w, i32_w]
                 rfl
                refine pure_ (i := 21) (N := some 51) (v := ?_) (a' := ?_) #[o,o,o,o,o,o,o,o,o,o,o,o,o,o,o,o,o,o,o,o,z,o,z,z,z,z,z,z,z,z,z,z,z,z,z,z,z,z,z,z] rfl rfl (any_of HT_.out (by kernel_rfl)) (fun _ _ _ h => h) (Or.inl ⟨by rfl, ?_⟩) ?_ ?_
                rotate_left
                ·intro w'
                 go_simp
                 with_reducible rfl
                rotate_left
                ·simp only [Act.put, qa, qb, qc, i64_w, i32_w]
                 rfl
                refine take_ (i := 20) (N := some 50) (v := ?_) (a' := ?_) #[o,o,o,o,o,o,o,o,o,o,o,o,o,o,o,o,o,o,o,o,o,o,z,z,z,z,z,z,z,z,z,z,z,z,z,z,z,z,z,z] rfl rfl (take_ofW HT_.out HW_.out (by kernel_rfl)) (fun _ _ _ h => h) (Or.inl ⟨by rfl, ?_⟩) hHeld ?_ ?_
                rotate_left
                ·rintro w' ⟨s0, s1, s2, s3, s4, s5, s6, s7, s8, s9, s10, s11, s12, s13, s14, s15, s16, s17, s18, s19, s20, s21, s22, s23⟩
                 go_simp
                 with_reducible rfl
                rotate_left
                ·simp only [Act.put, qa, qb, qc, i64_w, i32_w]
                 rfl
                refine take_ (i := 22) (N := some 52) (v := ?_) (a' := ?_) #[o,o,o,o,o,o,o,o,o,o,o,o,o,o,o,o,o,o,o,o,o,o,o,z,z,z,z,z,z,z,z,z,z,z,z,z,z,z,z,z] rfl rfl (take_ofW HT_.out HW_.out (by kernel_rfl)) (fun _ _ _ h => h) (Or.inl ⟨by rfl, ?_⟩) hHeld ?_ ?_
                rotate_left
                ·rintro w' ⟨s0, s1, s2, s3, s4, s5, s6, s7, s8, s9, s10, s11, s12, s13, s14, s15, s16, s17, s18, s19, s20, s21, s22, s23⟩
                 go_simp
                 with_reducible rfl
                rotate_left
                ·simp only [Act.put, qa, qb, qc, i64_w, i32_w]
                 rfl
                refine one_ (i := 23) (N := some 53) #[o,o,o,o,o,o,o,o,o,o,o,o,o,o,o,o,o,o,o,o,o,o,o,o,z,z,z,z,z,z,z,z,z,z,z,z,z,z,z,z] rfl rfl (one_of HT_.out (by kernel_rfl)) (by decide) (fun K hK => ?_)
                refine goes_ Try.func42 (by kernel_rfl) rfl #[.agg #[.int .i64 ((rd_T84 l0 a1).f2.f0), .int .i64 ((rd_T84 l0 a1).f2.f1)], .agg #[.int .i64 ((rd_T84 l0 x25_2).f2.f0), .int .i64 ((rd_T84 l0 x25_2).f2.f1)]] (by rfl) rfl rfl (by (try simp only [List.map_toArray, List.map_cons, List.map_nil]); first | done | rfl | (simp only [List.length_drop, List.length_take]; rfl)) ?_
                with_reducible refine (impl_IsNarrower.calls ((rd_T84 l0 a1).f2.f0) ((rd_T84 l0 a1).f2.f1) ((rd_T84 l0 x25_2).f2.f0) ((rd_T84 l0 x25_2).f2.f1) true _ A25.out).mono ?_
                rintro e w34 ⟨rfl, hb⟩
                refine ⟨_, rfl, ?_⟩
                replace BK321 := am (blk_below (bB BK321.out) hb)
                replace HB := am (below_step (sB HB.out) hb)
                (try clear hb)
                (try clear hb2)
                (try clear hk)
                (try clear hi)
                refine hK.out _ _ ⟨(blk_cell BK321.out 0).trans rfl, (blk_cell BK321.out 1).trans rfl, (blk_cell BK321.out 2).trans rfl, (blk_cell BK321.out 3).trans rfl, (blk_cell BK321.out 4).trans rfl, (blk_cell BK321.out 5).trans rfl, (blk_cell BK321.out 6).trans rfl, (blk_cell BK321.out 7).trans rfl, (hc_ HB hw323_0), (hc_ HB hw323_1), (hc_ HB hw323_2), (hc_ HB hw323_3), (hc_ HB hw323_4), (hc_ HB hw323_5), (hc_ HB hw323_6), (hc_ HB hw323_7), (hc_ HB hw325_0), (hc_ HB hw325_1), (hc_ HB hw325_2), (hc_ HB hw325_3), (hc_ HB hw325_4), (hc_ HB hw325_5), (hc_ HB hw325_6), (hc_ HB hw325_7)⟩ (fun hHeld => ?_)
                clear hK K
                refine norm_ (a' := ?_) ?_ ?_
                rotate_left
                ·show Act.put _ (some 53) _ = _
                 simp only [Act.put, qa, qb, qc, i64_w, i32_w]
                 rfl
                refine pure_ (i := 24) (N := some 54) (v := ?_) (a' := ?_) #[o,o,o,o,o,o,o,o,o,o,o,o,o,o,o,o,o,o,o,o,o,o,o,o,o,z,z,z,z,z,z,z,z,z,z,z,z,z,z,z] rfl rfl (any_of HT_.out (by kernel_rfl)) (fun _ _ _ h => h) (Or.inl ⟨by rfl, ?_⟩) ?_ ?_
                rotate_left
                ·intro w'
                 go_simp
                 with_reducible rfl
                rotate_left
                ·simp only [Act.put, qa, qb, qc, i64_w, i32_w]
                 rfl
                refine pure_ (i := 25) (N := some 55) (v := ?_) (a' := ?_) #[o,o,o,o,o,o,o,o,o,o,o,o,o,o,o,o,o,o,o,o,o,o,o,o,o,o,z,z,z,z,z,z,z,z,z,z,z,z,z,z] rfl rfl (any_of HT_.out (by kernel_rfl)) (fun _ _ _ h => h) (Or.inl ⟨by rfl, ?_⟩) ?_ ?_
                rotate_left
                ·intro w'
                 go_simp
                 with_reducible rfl
                rotate_left
                ·simp only [Act.put, qa, qb, qc, i64_w, i32_w]
                 rfl
                refine pure_ (i := 26) (N := some 56) (v := ?_) (a' := ?_) #[o,o,o,o,o,o,o,o,o,o,o,o,o,o,o,o,o,o,o,o,o,o,o,o,o,o,o,z,z,z,z,z,z,z,z,z,z,z,z,z] rfl rfl (any_of HT_.out (by kernel_rfl)) (fun _ _ _ h => h) (Or.inl ⟨by rfl, ?_⟩) ?_ ?_
                rotate_left
                ·intro w'
                 go_simp
                 with_reducible rfl
                rotate_left
                ·simp only [Act.put, qa, qb, qc, i64_w, i32_w]
                 rfl
                refine take_ (i := 27) (N := some 57) (v := ?_) (a' := ?_) #[o,o,o,o,o,o,o,o,o,o,o,o,o,o,o,o,o,o,o,o,o,o,o,o,o,o,o,o,z,z,z,z,z,z,z,z,z,z,z,z] rfl rfl (take_ofW HT_.out HW_.out (by kernel_rfl)) (fun _ _ _ h => h) (Or.inl ⟨by rfl, ?_⟩) hHeld ?_ ?_
                rotate_left
                ·rintro w' ⟨s0, s1, s2, s3, s4, s5, s6, s7, s8, s9, s10, s11, s12, s13, s14, s15, s16, s17, s18, s19, s20, s21, s22, s23⟩
                 go_simp
                 with_reducible rfl
                rotate_left
                ·simp only [Act.put, qa, qb, qc, i64_w, i32_w]
                 rfl
                refine pure_ (i := 28) (N := some 58) (v := ?_) (a' := ?_) #[o,o,o,o,o,o,o,o,o,o,o,o,o,o,o,o,o,o,o,o,o,o,o,o,o,o,o,o,o,z,z,z,z,z,z,z,z,z,z,z] rfl rfl (any_of HT_.out (by kernel_rfl)) (fun _ _ _ h => h) (Or.inl ⟨by rfl, ?_⟩) ?_ ?_
                rotate_left
                ·intro w'
                 go_simp
                 with_reducible rfl
                rotate_left
                ·simp only [Act.put, qa, qb, qc, i64_w, i32_w]
                 rfl
                refine pure_ (i := 29) (N := some 59) (v := ?_) (a' := ?_) #[o,o,o,o,o,o,o,o,o,o,o,o,o,o,o,o,o,o,o,o,o,o,o,o,o,o,o,o,o,o,z,z,z,z,z,z,z,z,z,z] rfl rfl (any_of HT_.out (by kernel_rfl)) (fun _ _ _ h => h) (Or.inl ⟨by rfl, ?_⟩) ?_ ?_
                rotate_left
                ·intro w'
                 go_simp
                 with_reducible rfl
                rotate_left
                ·simp only [Act.put, qa, qb, qc, i64_w, i32_w]
                 rfl
                refine pure_ (i := 30) (N := some 60) (v := undef) (a' := ?_) #[o,o,o,o,o,o,o,o,o,o,o,o,o,o,o,o,o,o,o,o,o,o,o,o,o,o,o,o,o,o,o,z,z,z,z,z,z,z,z,z] rfl rfl (any_of HT_.out (by kernel_rfl)) (fun _ _ _ h => h) (Or.inr ⟨by rfl, rfl⟩) ?_ ?_
                rotate_left
                ·simp only [Act.put, qa, qb, qc, i64_w, i32_w]
                 rfl
                refine pure_ (i := 31) (N := some 61) (v := undef) (a' := ?_) #[o,o,o,o,o,o,o,o,o,o,o,o,o,o,o,o,o,o,o,o,o,o,o,o,o,o,o,o,o,o,o,o,z,z,z,z,z,z,z,z] rfl rfl (any_of HT_.out (by kernel_rfl)) (fun _ _ _ h => h) (Or.inr ⟨by rfl, rfl⟩) ?_ ?_
                rotate_left
                ·simp only [Act.put, qa, qb, qc, i64_w, i32_w]
                 rfl
                refine pure_ (i := 32) (N := some 62) (v := undef) (a' := ?_) #[o,o,o,o,o,o,o,o,o,o,o,o,o,o,o,o,o,o,o,o,o,o,o,o,o,o,o,o,o,o,o,o,o,z,z,z,z,z,z,z] rfl rfl (any_of HT_.out (by kernel_rfl)) (fun _ _ _ h => h) (Or.inr ⟨by rfl, rfl⟩) ?_ ?_
                rotate_left
                ·simp only [Act.put, qa, qb, qc, i64_w, i32_w]
                 rfl
                refine pure_ (i := 33) (N := some 63) (v := undef) (a' := ?_) #[o,o,o,o,o,o,o,o,o,o,o,o,o,o,o,o,o,o,o,o,o,o,o,o,o,o,o,o,o,o,o,o,o,o,z,z,z,z,z,z] rfl rfl (any_of HT_.out (by kernel_rfl)) (fun _ _ _ h => h) (Or.inr ⟨by rfl, rfl⟩) ?_ ?_
                rotate_left
                ·simp only [Act.put, qa, qb, qc, i64_w, i32_w]
                 rfl
                refine pure_ (i := 34) (N := some 64) (v := undef) (a' := ?_) #[o,o,o,o,o,o,o,o,o,o,o,o,o,o,o,o,o,o,o,o,o,o,o,o,o,o,o,o,o,o,o,o,o,o,o,z,z,z,z,z] rfl rfl (any_of HT_.out (by kernel_rfl)) (fun _ _ _ h => h) (Or.inr ⟨by rfl, rfl⟩) ?_ ?_
                rotate_left
                ·simp only [Act.put, qa, qb, qc, i64_w, i32_w]
                 rfl
                refine pure_ (i := 35) (N := some 65) (v := undef) (a' := ?_) #[o,o,o,o,o,o,o,o,o,o,o,o,o,o,o,o,o,o,o,o,o,o,o,o,o,o,o,o,o,o,o,o,o,o,o,o,z,z,z,z] rfl rfl (any_of HT_.out (by kernel_rfl)) (fun _ _ _ h => h) (Or.inr ⟨by rfl, rfl⟩) ?_ ?_
                rotate_left
                ·simp only [Act.put, qa, qb, qc, i64_w, i32_w]
                 rfl
                refine pure_ (i := 36) (N := some 66) (v := undef) (a' := ?_) #[o,o,o,o,o,o,o,o,o,o,o,o,o,o,o,o,o,o,o,o,o,o,o,o,o,o,o,o,o,o,o,o,o,o,o,o,o,z,z,z] rfl rfl (any_of HT_.out (by kernel_rfl)) (fun _ _ _ h => h) (Or.inr ⟨by rfl, rfl⟩) ?_ ?_
                rotate_left
                ·simp only [Act.put, qa, qb, qc, i64_w, i32_w]
                 rfl
                refine pure_ (i := 37) (N := some 67) (v := undef) (a' := ?_) #[o,o,o,o,o,o,o,o,o,o,o,o,o,o,o,o,o,o,o,o,o,o,o,o,o,o,o,o,o,o,o,o,o,o,o,o,o,o,z,z] rfl rfl (any_of HT_.out (by kernel_rfl)) (fun _ _ _ h => h) (Or.inr ⟨by rfl, rfl⟩) ?_ ?_
                rotate_left
                ·simp only [Act.put, qa, qb, qc, i64_w, i32_w]
                 rfl
                refine pure_ (i := 38) (N := some 68) (v := ?_) (a' := ?_) #[o,o,o,o,o,o,o,o,o,o,o,o,o,o,o,o,o,o,o,o,o,o,o,o,o,o,o,o,o,o,o,o,o,o,o,o,o,o,o,z] rfl rfl (any_of HT_.out (by kernel_rfl)) (fun _ _ _ h => h) (Or.inl ⟨by rfl, ?_⟩) ?_ ?_
                rotate_left
                ·intro w'
                 go_simp
                 with_reducible rfl
                rotate_left
                ·simp only [Act.put, qa, qb, qc, i64_w, i32_w]
                 rfl
                refine pure_ (i := 39) (N := some 69) (v := ?_) (a' := ?_) #[o,o,o,o,o,o,o,o,o,o,o,o,o,o,o,o,o,o,o,o,o,o,o,o,o,o,o,o,o,o,o,o,o,o,o,o,o,o,o,o] rfl rfl (any_of HT_.out (by kernel_rfl)) (fun _ _ _ h => h) (Or.inl ⟨by rfl, ?_⟩) ?_ ?_
                rotate_left
                ·intro w'
                 go_simp
                 with_reducible rfl
                rotate_left
                ·simp only [Act.put, qa, qb, qc, i64_w, i32_w]
                 rfl
                refine done_ (done_of HT_.out (by kernel_rfl)) ?_
                try go_wp2
                go_ret
                exact ⟨by first | rfl | (simp [errW_none, errW_some] <;> rfl) | (simp [*, errW_none, errW_some] <;> rfl), sB HB.out⟩
               ·rw [if_neg c27] at H
                have c27b0 : (((rd_T84 l0 x25_2).f3) == 0) = false := beq_eq_false_iff_ne.mpr c27
                have c27b1 : (((rd_T84 l0 x25_2).f3) != 0) = true := bne_iff_ne.mpr c27
                by_cases c35 : ((rd_T84 l0 x25_2).f3) = ((rd_T84 l0 a1).f3)
                ·rw [if_pos c35] at H
                 have c35b0 : (((rd_T84 l0 x25_2).f3) == ((rd_T84 l0 a1).f3)) = true := beq_iff_eq.mpr c35
                 have c35b1 : (((rd_T84 l0 x25_2).f3) != ((rd_T84 l0 a1).f3)) = false := bne_eq_false_iff_eq.mpr c35
                 clear c35
                 obtain rfl := Option.some.inj H
                 have p320 : 0 ≤ (x25_2 : Int) := of_decide_eq_true (by first | (with_reducible assumption) | assumption)
                 have q320 : x25_2 < (l0.length : Int) := of_decide_eq_true (by first | (with_reducible assumption) | assumption)
                 obtain ⟨ad320, e320, hx320_0, hx320_1, hx320_2, hx320_3, hx320_4, hx320_5, hx320_6, hx320_7⟩ := at_T84 HR0.out x25_2 p320 q320
                 cases e320
                 replace hx320_0 := hc_ HB hx320_0
                 replace hx320_1 := hc_ HB hx320_1
                 replace hx320_2 := hc_ HB hx320_2
                 replace hx320_3 := hc_ HB hx320_3
                 replace hx320_4 := hc_ HB hx320_4
                 replace hx320_5 := hc_ HB hx320_5
                 replace hx320_6 := hc_ HB hx320_6
                 replace hx320_7 := hc_ HB hx320_7
                 replace p320 := eq_true p320
                 replace q320 := eq_true q320
                 try go_wp2_with (first | ((with_reducible refine gate_dst (N := 6) rfl ?_); (try (refine gate_guard (by rfl) ?_; dsimp only)); refine box_event ?hg (N := 6) ?hd (cs := #[.int .i64 0, .int .i64 0, .int .i64 0, .int .i64 0, .int .i64 0, .int .i64 0, .int .i64 0, .int .i64 0]) (t := 84) ?hr ?_; (case hd => rfl); (case hg => rfl); (case hr => first | (go_simp; done) | (go_simp; rfl)); intro gb321 hg w36 hbox hb; have q_ := hbx_ (sB HB.out) hg hb; have n0_ := q_.1; have n1_ := am (hbox); have n2_ := q_.2; have n3_ := n2_; clear HB; have HB := n0_; have BK321 := n1_; have GW321 := n2_; have GE321 := n3_; clear n0_ n1_ n2_ n3_ hb hbox hg; obtain ⟨hcz37_0, hcz37_1, hcz37_2, hcz37_3, hcz37_4, hcz37_5, hcz37_6, hcz37_7, hfz37_0, hfz37_1, hfz37_2, hfz37_3, hfz37_4, hfz37_5, hfz37_6, hfz37_7⟩ := blk8 BK321.out))
                 have n0_ : Aside0 (((((((((w36.setCell ⟨gb321, 0, none⟩ (.int .i64 ((rd_T84 l0 x25_2).f0))).setCell ⟨gb321, 1, none⟩ (.int .i64 ((rd_T84 l0 x25_2).f1))).setCell ⟨gb321, 2, none⟩ (.int .i64 ((rd_T84 l0 x25_2).f2.f0))).setCell ⟨gb321, 3, none⟩ (.int .i64 ((rd_T84 l0 x25_2).f2.f1))).setCell ⟨gb321, 4, none⟩ (.int .i64 ((rd_T84 l0 x25_2).f3))).setCell ⟨gb321, 5, none⟩ (.int .i64 ((rd_T84 l0 x25_2).f4))).setCell ⟨gb321, 6, none⟩ (.int .i64 ((rd_T84 l0 x25_2).f5.f0))).setCell ⟨gb321, 7, none⟩ (.int .i64 ((rd_T84 l0 x25_2).f5.f1))).heap[gb321]? = some (.cells #[.int .i64 ((rd_T84 l0 x25_2).f0), .int .i64 ((rd_T84 l0 x25_2).f1), .int .i64 ((rd_T84 l0 x25_2).f2.f0), .int .i64 ((rd_T84 l0 x25_2).f2.f1), .int .i64 ((rd_T84 l0 x25_2).f3), .int .i64 ((rd_T84 l0 x25_2).f4), .int .i64 ((rd_T84 l0 x25_2).f5.f0), .int .i64 ((rd_T84 l0 x25_2).f5.f1)] 84 (0, 0))) := ⟨by refine bB ?_; refine blk_put (cs := #[.int .i64 ((rd_T84 l0 x25_2).f0), .int .i64 ((rd_T84 l0 x25_2).f1), .int .i64 ((rd_T84 l0 x25_2).f2.f0), .int .i64 ((rd_T84 l0 x25_2).f2.f1), .int .i64 ((rd_T84 l0 x25_2).f3), .int .i64 ((rd_T84 l0 x25_2).f4), .int .i64 ((rd_T84 l0 x25_2).f5.f0), .int .i64 0]) ?_ 7 _ rfl; refine bB ?_; refine blk_put (cs := #[.int .i64 ((rd_T84 l0 x25_2).f0), .int .i64 ((rd_T84 l0 x25_2).f1), .int .i64 ((rd_T84 l0 x25_2).f2.f0), .int .i64 ((rd_T84 l0 x25_2).f2.f1), .int .i64 ((rd_T84 l0 x25_2).f3), .int .i64 ((rd_T84 l0 x25_2).f4), .int .i64 0, .int .i64 0]) ?_ 6 _ rfl; refine bB ?_; refine blk_put (cs := #[.int .i64 ((rd_T84 l0 x25_2).f0), .int .i64 ((rd_T84 l0 x25_2).f1), .int .i64 ((rd_T84 l0 x25_2).f2.f0), .int .i64 ((rd_T84 l0 x25_2).f2.f1), .int .i64 ((rd_T84 l0 x25_2).f3), .int .i64 0, .int .i64 0, .int .i64 0]) ?_ 5 _ rfl; refine bB ?_; refine blk_put (cs := #[.int .i64 ((rd_T84 l0 x25_2).f0), .int .i64 ((rd_T84 l0 x25_2).f1), .int .i64 ((rd_T84 l0 x25_2).f2.f0), .int .i64 ((rd_T84 l0 x25_2).f2.f1), .int .i64 0, .int .i64 0, .int .i64 0, .int .i64 0]) ?_ 4 _ rfl; refine bB ?_; refine blk_put (cs := #[.int .i64 ((rd_T84 l0 x25_2).f0), .int .i64 ((rd_T84 l0 x25_2).f1), .int .i64 ((rd_T84 l0 x25_2).f2.f0), .int .i64 0, .int .i64 0, .int .i64 0, .int .i64 0, .int .i64 0]) ?_ 3 _ rfl; refine bB ?_; refine blk_put (cs := #[.int .i64 ((rd_T84 l0 x25_2).f0), .int .i64 ((rd_T84 l0 x25_2).f1), .int .i64 0, .int .i64 0, .int .i64 0, .int .i64 0, .int .i64 0, .int .i64 0]) ?_ 2 _ rfl; refine bB ?_; refine blk_put (cs := #[.int .i64 ((rd_T84 l0 x25_2).f0), .int .i64 0, .int .i64 0, .int .i64 0, .int .i64 0, .int .i64 0, .int .i64 0, .int .i64 0]) ?_ 1 _ rfl; refine bB ?_; refine blk_put (cs := #[.int .i64 0, .int .i64 0, .int .i64 0, .int .i64 0, .int .i64 0, .int .i64 0, .int .i64 0, .int .i64 0]) ?_ 0 _ rfl; refine bB ?_; exact BK321.out⟩
                 have n1_ : Aside0 (Below w.heap.size w ((((((((w36.setCell ⟨gb321, 0, none⟩ (.int .i64 ((rd_T84 l0 x25_2).f0))).setCell ⟨gb321, 1, none⟩ (.int .i64 ((rd_T84 l0 x25_2).f1))).setCell ⟨gb321, 2, none⟩ (.int .i64 ((rd_T84 l0 x25_2).f2.f0))).setCell ⟨gb321, 3, none⟩ (.int .i64 ((rd_T84 l0 x25_2).f2.f1))).setCell ⟨gb321, 4, none⟩ (.int .i64 ((rd_T84 l0 x25_2).f3))).setCell ⟨gb321, 5, none⟩ (.int .i64 ((rd_T84 l0 x25_2).f4))).setCell ⟨gb321, 6, none⟩ (.int .i64 ((rd_T84 l0 x25_2).f5.f0))).setCell ⟨gb321, 7, none⟩ (.int .i64 ((rd_T84 l0 x25_2).f5.f1)))) := ⟨sB HB.out⟩
                 (try clear BK321)
                 (try clear HB)
                 generalize ((((((((w36.setCell ⟨gb321, 0, none⟩ (.int .i64 ((rd_T84 l0 x25_2).f0))).setCell ⟨gb321, 1, none⟩ (.int .i64 ((rd_T84 l0 x25_2).f1))).setCell ⟨gb321, 2, none⟩ (.int .i64 ((rd_T84 l0 x25_2).f2.f0))).setCell ⟨gb321, 3, none⟩ (.int .i64 ((rd_T84 l0 x25_2).f2.f1))).setCell ⟨gb321, 4, none⟩ (.int .i64 ((rd_T84 l0 x25_2).f3))).setCell ⟨gb321, 5, none⟩ (.int .i64 ((rd_T84 l0 x25_2).f4))).setCell ⟨gb321, 6, none⟩ (.int .i64 ((rd_T84 l0 x25_2).f5.f0))).setCell ⟨gb321, 7, none⟩ (.int .i64 ((rd_T84 l0 x25_2).f5.f1))) = w38 at n0_ n1_ ⊢
                 have BK321 := n0_
                 have HB := n1_
                 clear n0_ n1_
                 replace BK321 := am (blk_drew BK321.out)
                 replace HB := am (below_drew1 HB.out)
                 have p323 : 0 ≤ (a1 : Int) := of_decide_eq_true (by first | (with_reducible assumption) | assumption)
                 have q323 : a1 < (l0.length : Int) := of_decide_eq_true (by first | (with_reducible assumption) | assumption)
                 obtain ⟨ad323, e323, hx323_0, hx323_1, hx323_2, hx323_3, hx323_4, hx323_5, hx323_6, hx323_7⟩ := at_T84 HR0.out a1 p323 q323
                 have hw323_7 := hx323_7
                 have hw323_6 := hx323_6
                 have hw323_5 := hx323_5
                 have hw323_4 := hx323_4
                 have hw323_3 := hx323_3
                 have hw323_2 := hx323_2
                 have hw323_1 := hx323_1
                 have hw323_0 := hx323_0
                 obtain rfl : ad320 = ad323 := (by injection e323)
                 replace hx323_0 := hc_ HB hx323_0
                 replace hx323_1 := hc_ HB hx323_1
                 replace hx323_2 := hc_ HB hx323_2
                 replace hx323_3 := hc_ HB hx323_3
                 replace hx323_4 := hc_ HB hx323_4
                 replace hx323_5 := hc_ HB hx323_5
                 replace hx323_6 := hc_ HB hx323_6
                 replace hx323_7 := hc_ HB hx323_7
                 replace p323 := eq_true p323
                 replace q323 := eq_true q323
                 have p325 : 0 ≤ (a1 : Int) := of_decide_eq_true (by first | (with_reducible assumption) | assumption)
                 have q325 : a1 < (l0.length : Int) := of_decide_eq_true (by first | (with_reducible assumption) | assumption)
                 obtain ⟨ad325, e325, hx325_0, hx325_1, hx325_2, hx325_3, hx325_4, hx325_5, hx325_6, hx325_7⟩ := at_T84 HR0.out a1 p325 q325
                 have hw325_7 := hx325_7
                 have hw325_6 := hx325_6
                 have hw325_5 := hx325_5
                 have hw325_4 := hx325_4
                 have hw325_3 := hx325_3
                 have hw325_2 := hx325_2
                 have hw325_1 := hx325_1
                 have hw325_0 := hx325_0
                 obtain rfl : ad320 = ad325 := (by injection e325)
                 replace hx325_0 := hc_ HB hx325_0
                 replace hx325_1 := hc_ HB hx325_1
                 replace hx325_2 := hc_ HB hx325_2
                 replace hx325_3 := hc_ HB hx325_3
                 replace hx325_4 := hc_ HB hx325_4
                 replace hx325_5 := hc_ HB hx325_5
                 replace hx325_6 := hc_ HB hx325_6
                 replace hx325_7 := hc_ HB hx325_7
                 replace p325 := eq_true p325
                 replace q325 := eq_true q325
                 have p327 : 0 ≤ (a1 : Int) := of_decide_eq_true (by first | (with_reducible assumption) | assumption)
                 have q327 : a1 < (l0.length : Int) := of_decide_eq_true (by first | (with_reducible assumption) | assumption)
                 obtain ⟨ad327, e327, hx327_0, hx327_1, hx327_2, hx327_3, hx327_4, hx327_5, hx327_6, hx327_7⟩ := at_T84 HR0.out a1 p327 q327
                 have hw327_7 := hx327_7
                 have hw327_6 := hx327_6
                 have hw327_5 := hx327_5
                 have hw327_4 := hx327_4
                 have hw327_3 := hx327_3
                 have hw327_2 := hx327_2
                 have hw327_1 := hx327_1
                 have hw327_0 := hx327_0
                 obtain rfl : ad320 = ad327 := (by injection e327)
                 replace hx327_0 := hc_ HB hx327_0
                 replace hx327_1 := hc_ HB hx327_1
                 replace hx327_2 := hc_ HB hx327_2
                 replace hx327_3 := hc_ HB hx327_3
                 replace hx327_4 := hc_ HB hx327_4
                 replace hx327_5 := hc_ HB hx327_5
                 replace hx327_6 := hc_ HB hx327_6
                 replace hx327_7 := hc_ HB hx327_7
                 replace p327 := eq_true p327
                 replace q327 := eq_true q327
                 refine start_ (n := 40) (S := fun w' => w'.cell? ⟨gb321, 0, none⟩ = some (.int .i64 ((rd_T84 l0 x25_2).f0)) ∧ w'.cell? ⟨gb321, 1, none⟩ = some (.int .i64 ((rd_T84 l0 x25_2).f1)) ∧ w'.cell? ⟨gb321, 2, none⟩ = some (.int .i64 ((rd_T84 l0 x25_2).f2.f0)) ∧ w'.cell? ⟨gb321, 3, none⟩ = some (.int .i64 ((rd_T84 l0 x25_2).f2.f1)) ∧ w'.cell? ⟨gb321, 4, none⟩ = some (.int .i64 ((rd_T84 l0 x25_2).f3)) ∧ w'.cell? ⟨gb321, 5, none⟩ = some (.int .i64 ((rd_T84 l0 x25_2).f4)) ∧ w'.cell? ⟨gb321, 6, none⟩ = some (.int .i64 ((rd_T84 l0 x25_2).f5.f0)) ∧ w'.cell? ⟨gb321, 7, none⟩ = some (.int .i64 ((rd_T84 l0 x25_2).f5.f1)) ∧ w'.cell? (ad320.add ((a1).toNat * 8)) = some (.int .i64 ((rd_T84 l0 a1).f0)) ∧ w'.cell? ⟨(ad320.add ((a1).toNat * 8)).block, (ad320.add ((a1).toNat * 8)).off + 1, none⟩ = some (.int .i64 ((rd_T84 l0 a1).f1)) ∧ w'.cell? ⟨(ad320.add ((a1).toNat * 8)).block, (ad320.add ((a1).toNat * 8)).off + 2, none⟩ = some (.int .i64 ((rd_T84 l0 a1).f2.f0)) ∧ w'.cell? ⟨(ad320.add ((a1).toNat * 8)).block, (ad320.add ((a1).toNat * 8)).off + 3, none⟩ = some (.int .i64 ((rd_T84 l0 a1).f2.f1)) ∧ w'.cell? ⟨(ad320.add ((a1).toNat * 8)).block, (ad320.add ((a1).toNat * 8)).off + 4, none⟩ = some (.int .i64 ((rd_T84 l0 a1).f3)) ∧ w'.cell? ⟨(ad320.add ((a1).toNat * 8)).block, (ad320.add ((a1).toNat * 8)).off + 5, none⟩ = some (.int .i64 ((rd_T84 l0 a1).f4)) ∧ w'.cell? ⟨(ad320.add ((a1).toNat * 8)).block, (ad320.add ((a1).toNat * 8)).off + 6, none⟩ = some (.int .i64 ((rd_T84 l0 a1).f5.f0)) ∧ w'.cell? ⟨(ad320.add ((a1).toNat * 8)).block, (ad320.add ((a1).toNat * 8)).off + 7, none⟩ = some (.int .i64 ((rd_T84 l0 a1).f5.f1)) ∧ w'.cell? (ad320.add ((a1).toNat * 8)) = some (.int .i64 ((rd_T84 l0 a1).f0)) ∧ w'.cell? ⟨(ad320.add ((a1).toNat * 8)).block, (ad320.add ((a1).toNat * 8)).off + 1, none⟩ = some (.int .i64 ((rd_T84 l0 a1).f1)) ∧ w'.cell? ⟨(ad320.add ((a1).toNat * 8)).block, (ad320.add ((a1).toNat * 8)).off + 2, none⟩ = some (.int .i64 ((rd_T84 l0 a1).f2.f0)) ∧ w'.cell? ⟨(ad320.add ((a1).toNat * 8)).block, (ad320.add ((a1).toNat * 8)).off + 3, none⟩ = some (.int .i64 ((rd_T84 l0 a1).f2.f1)) ∧ w'.cell? ⟨(ad320.add ((a1).toNat * 8)).block, (ad320.add ((a1).toNat * 8)).off + 4, none⟩ = some (.int .i64 ((rd_T84 l0 a1).f3)) ∧ w'.cell? ⟨(ad320.add ((a1).toNat * 8)).block, (ad320.add ((a1).toNat * 8)).off + 5, none⟩ = some (.int .i64 ((rd_T84 l0 a1).f4)) ∧ w'.cell? ⟨(ad320.add ((a1).toNat * 8)).block, (ad320.add ((a1).toNat * 8)).off + 6, none⟩ = some (.int .i64 ((rd_T84 l0 a1).f5.f0)) ∧ w'.cell? ⟨(ad320.add ((a1).toNat * 8)).block, (ad320.add ((a1).toNat * 8)).off + 7, none⟩ = some (.int .i64 ((rd_T84 l0 a1).f5.f1)) ∧ w'.cell? (ad320.add ((a1).toNat * 8)) = some (.int .i64 ((rd_T84 l0 a1).f0)) ∧ w'.cell? ⟨(ad320.add ((a1).toNat * 8)).block, (ad320.add ((a1).toNat * 8)).off + 1, none⟩ = some (.int .i64 ((rd_T84 l0 a1).f1)) ∧ w'.cell? ⟨(ad320.add ((a1).toNat * 8)).block, (ad320.add ((a1).toNat * 8)).off + 2, none⟩ = some (.int .i64 ((rd_T84 l0 a1).f2.f0)) ∧ w'.cell? ⟨(ad320.add ((a1).toNat * 8)).block, (ad320.add ((a1).toNat * 8)).off + 3, none⟩ = some (.int .i64 ((rd_T84 l0 a1).f2.f1)) ∧ w'.cell? ⟨(ad320.add ((a1).toNat * 8)).block, (ad320.add ((a1).toNat * 8)).off + 4, none⟩ = some (.int .i64 ((rd_T84 l0 a1).f3)) ∧ w'.cell? ⟨(ad320.add ((a1).toNat * 8)).block, (ad320.add ((a1).toNat * 8)).off + 5, none⟩ = some (.int .i64 ((rd_T84 l0 a1).f4)) ∧ w'.cell? ⟨(ad320.add ((a1).toNat * 8)).block, (ad320.add ((a1).toNat * 8)).off + 6, none⟩ = some (.int .i64 ((rd_T84 l0 a1).f5.f0)) ∧ w'.cell? ⟨(ad320.add ((a1).toNat * 8)).block, (ad320.add ((a1).toNat * 8)).off + 7, none⟩ = some (.int .i64 ((rd_T84 l0 a1).f5.f1))) (ds := []) #[z,z,z,z,z,z,z,z,z,z,z,z,z,z,z,z,z,z,z,z,z,z,z,z,z,z,z,z,z,z,z,z,z,z,z,z,z,z,z,z] (by kernel_rfl) rfl rfl ⟨(blk_cell BK321.out 0).trans rfl, (blk_cell BK321.out 1).trans rfl, (blk_cell BK321.out 2).trans rfl, (blk_cell BK321.out 3).trans rfl, (blk_cell BK321.out 4).trans rfl, (blk_cell BK321.out 5).trans rfl, (blk_cell BK321.out 6).trans rfl, (blk_cell BK321.out 7).trans rfl, (hc_ HB hw323_0), (hc_ HB hw323_1), (hc_ HB hw323_2), (hc_ HB hw323_3), (hc_ HB hw323_4), (hc_ HB hw323_5), (hc_ HB hw323_6), (hc_ HB hw323_7), (hc_ HB hw325_0), (hc_ HB hw325_1), (hc_ HB hw325_2), (hc_ HB hw325_3), (hc_ HB hw325_4), (hc_ HB hw325_5), (hc_ HB hw325_6), (hc_ HB hw325_7), (hc_ HB hw327_0), (hc_ HB hw327_1), (hc_ HB hw327_2), (hc_ HB hw327_3), (hc_ HB hw327_4), (hc_ HB hw327_5), (hc_ HB hw327_6), (hc_ HB hw327_7)⟩ (fun hHeld => ?_); refine with_tabW impl_IsShadowed.tab6 impl_IsShadowed.bits6 (fun HT_ HW_ => ?_)
                 generalize w38.drew = w39 at BK321 HB hx323_0 hx323_1 hx323_2 hx323_3 hx323_4 hx323_5 hx323_6 hx323_7 hx325_0 hx325_1 hx325_2 hx325_3 hx325_4 hx325_5 hx325_6 hx325_7 hx327_0 hx327_1 hx327_2 hx327_3 hx327_4 hx327_5 hx327_6 hx327_7 hHeld ⊢
                 refine pure_ (i := 0) (N := some 30) (v := ?_) (a' := ?_) #[o,z,z,z,z,z,z,z,z,z,z,z,z,z,z,z,z,z,z,z,z,z,z,z,z,z,z,z,z,z,z,z,z,z,z,z,z,z,z,z] rfl rfl (any_of HT_.out (by kernel_rfl)) (fun _ _ _ h => h) (Or.inl ⟨by rfl, ?_⟩) ?_ ?_
                 rotate_left
                 ·intro w'
                  go_simp
                  with_reducible rfl
                 rotate_left
                 ·simp only [Act.put, qa, qb, qc, i64_w, i32_w]
                  rfl
                 refine pure_ (i := 1) (N := some 31) (v := ?_) (a' := ?_) #[o,o,z,z,z,z,z,z,z,z,z,z,z,z,z,z,z,z,z,z,z,z,z,z,z,z,z,z,z,z,z,z,z,z,z,z,z,z,z,z] rfl rfl (any_of HT_.out (by kernel_rfl)) (fun _ _ _ h => h) (Or.inl ⟨by rfl, ?_⟩) ?_ ?_
                 rotate_left
                 ·intro w'
                  go_simp
                  with_reducible rfl
                 rotate_left
                 ·simp only [Act.put, qa, qb, qc, i64_w, i32_w]
                  rfl
                 refine pure_ (i := 2) (N := some 32) (v := ?_) (a' := ?_) #[o,o,o,z,z,z,z,z,z,z,z,z,z,z,z,z,z,z,z,z,z,z,z,z,z,z,z,z,z,z,z,z,z,z,z,z,z,z,z,z] rfl rfl (any_of HT_.out (by kernel_rfl)) (fun _ _ _ h => h) (Or.inl ⟨by rfl, ?_⟩) ?_ ?_
                 rotate_left
                 ·intro w'
                  go_simp
                  with_reducible rfl
                 rotate_left
                 ·simp only [Act.put, qa, qb, qc, i64_w, i32_w]
                  rfl
                 refine pure_ (i := 3) (N := some 33) (v := ?_) (a' := ?_) #[o,o,o,o,z,z,z,z,z,z,z,z,z,z,z,z,z,z,z,z,z,z,z,z,z,z,z,z,z,z,z,z,z,z,z,z,z,z,z,z] rfl rfl (any_of HT_.out (by kernel_rfl)) (fun _ _ _ h => h) (Or.inl ⟨by rfl, ?_⟩) ?_ ?_
                 rotate_left
                 ·intro w'
                  go_simp
                  with_reducible rfl
                 rotate_left
                 ·simp only [Act.put, qa, qb, qc, i64_w, i32_w]
                  rfl
                 refine take_ (i := 4) (N := some 34) (v := ?_) (a' := ?_) #[o,o,o,o,o,z,z,z,z,z,z,z,z,z,z,z,z,z,z,z,z,z,z,z,z,z,z,z,z,z,z,z,z,z,z,z,z,z,z,z] rfl rfl (take_ofW HT_.out HW_.out (by kernel_rfl)) (fun _ _ _ h => h) (Or.inl ⟨by rfl, ?_⟩) hHeld ?_ ?_
                 rotate_left
                 ·rintro w' ⟨s0, s1, s2, s3, s4, s5, s6, s7, s8, s9, s10, s11, s12, s13, s14, s15, s16, s17, s18, s19, s20, s21, s22, s23, s24, s25, s26, s27, s28, s29, s30, s31⟩
                  go_simp
                  with_reducible rfl
                 rotate_left
                 ·simp only [Act.put, qa, qb, qc, i64_w, i32_w]
                  rfl
                 refine one_ (i := 5) (N := some 35) #[o,o,o,o,o,o,z,z,z,z,z,z,z,z,z,z,z,z,z,z,z,z,z,z,z,z,z,z,z,z,z,z,z,z,z,z,z,z,z,z] rfl rfl (one_of HT_.out (by kernel_rfl)) (by decide) (fun K hK => ?_)
                 refine goes_ Try.func56 (by kernel_rfl) rfl #[.agg #[.int .i64 ((rd_T84 l0 x25_2).f0), .int .i64 ((rd_T84 l0 x25_2).f1), .int .i64 ((rd_T84 l0 x25_2).f2.f0), .int .i64 ((rd_T84 l0 x25_2).f2.f1), .int .i64 ((rd_T84 l0 x25_2).f3), .int .i64 ((rd_T84 l0 x25_2).f4), .int .i64 ((rd_T84 l0 x25_2).f5.f0), .int .i64 ((rd_T84 l0 x25_2).f5.f1)]] (by rfl) rfl rfl (by (try simp only [List.map_toArray, List.map_cons, List.map_nil]); first | done | rfl | (simp only [List.length_drop, List.length_take]; rfl)) ?_
                 with_reducible refine (impl_IsRule.calls k2 ((rd_T84 l0 x25_2).f0) ((rd_T84 l0 x25_2).f1) ((rd_T84 l0 x25_2).f2.f0) ((rd_T84 l0 x25_2).f2.f1) ((rd_T84 l0 x25_2).f3) ((rd_T84 l0 x25_2).f4) ((rd_T84 l0 x25_2).f5.f0) ((rd_T84 l0 x25_2).f5.f1) true _ A19.out).mono ?_
                 rintro e w40 ⟨rfl, hb⟩
                 refine ⟨_, rfl, ?_⟩
                 replace BK321 := am (blk_below (bB BK321.out) hb)
                 replace HB := am (below_step (sB HB.out) hb)
                 (try clear hb)
                 (try clear hb2)
                 (try clear hk)
                 (try clear hi)
                 refine hK.out _ _ ⟨(blk_cell BK321.out 0).trans rfl, (blk_cell BK321.out 1).trans rfl, (blk_cell BK321.out 2).trans rfl, (blk_cell BK321.out 3).trans rfl, (blk_cell BK321.out 4).trans rfl, (blk_cell BK321.out 5).trans rfl, (blk_cell BK321.out 6).trans rfl, (blk_cell BK321.out 7).trans rfl, (hc_ HB hw323_0), (hc_ HB hw323_1), (hc_ HB hw323_2), (hc_ HB hw323_3), (hc_ HB hw323_4), (hc_ HB hw323_5), (hc_ HB hw323_6), (hc_ HB hw323_7), (hc_ HB hw325_0), (hc_ HB hw325_1), (hc_ HB hw325_2), (hc_ HB hw325_3), (hc_ HB hw325_4), (hc_ HB hw325_5), (hc_ HB hw325_6), (hc_ HB hw325_7), (hc_ HB hw327_0), (hc_ HB hw327_1), (hc_ HB hw327_2), (hc_ HB hw327_3), (hc_ HB hw327_4), (hc_ HB hw327_5), (hc_ HB hw327_6), (hc_ HB hw327_7)⟩ (fun hHeld => ?_)
                 clear hK K
                 refine norm_ (a' := ?_) ?_ ?_
                 rotate_left
                 ·show Act.put _ (some 35) _ = _
                  simp only [Act.put, qa, qb, qc, i64_w, i32_w]
                  rfl
                 refine pure_ (i := 6) (N := some 36) (v := ?_) (a' := ?_) #[o,o,o,o,o,o,o,z,z,z,z,z,z,z,z,z,z,z,z,z,z,z,z,z,z,z,z,z,z,z,z,z,z,z,z,z,z,z,z,z] rfl rfl (any_of HT_.out (by kernel_rfl)) (fun _ _ _ h => h) (Or.inl ⟨by rfl, ?_⟩) ?_ ?_
                 rotate_left
                 ·intro w'
                  go_simp
                  with_reducible rfl
                 rotate_left
                 ·simp only [Act.put, qa, qb, qc, i64_w, i32_w]
                  rfl
                 refine pure_ (i := 7) (N := some 37) (v := ?_) (a' := ?_) #[o,o,o,o,o,o,o,o,z,z,z,z,z,z,z,z,z,z,z,z,z,z,z,z,z,z,z,z,z,z,z,z,z,z,z,z,z,z,z,z] rfl rfl (any_of HT_.out (by kernel_rfl)) (fun _ _ _ h => h) (Or.inl ⟨by rfl, ?_⟩) ?_ ?_
                 rotate_left
                 ·intro w'
                  go_simp
                  with_reducible rfl
                 rotate_left
                 ·simp only [Act.put, qa, qb, qc, i64_w, i32_w]
                  rfl
                 refine pure_ (i := 9) (N := some 39) (v := ?_) (a' := ?_) #[o,o,o,o,o,o,o,o,z,o,z,z,z,z,z,z,z,z,z,z,z,z,z,z,z,z,z,z,z,z,z,z,z,z,z,z,z,z,z,z] rfl rfl (any_of HT_.out (by kernel_rfl)) (fun _ _ _ h => h) (Or.inl ⟨by rfl, ?_⟩) ?_ ?_
                 rotate_left
                 ·intro w'
                  go_simp
                  with_reducible rfl
                 rotate_left
                 ·simp only [Act.put, qa, qb, qc, i64_w, i32_w]
                  rfl
                 refine pure_ (i := 10) (N := some 40) (v := ?_) (a' := ?_) #[o,o,o,o,o,o,o,o,z,o,o,z,z,z,z,z,z,z,z,z,z,z,z,z,z,z,z,z,z,z,z,z,z,z,z,z,z,z,z,z] rfl rfl (any_of HT_.out (by kernel_rfl)) (fun _ _ _ h => h) (Or.inl ⟨by rfl, ?_⟩) ?_ ?_
                 rotate_left
                 ·intro w'
                  go_simp
                  with_reducible rfl
                 rotate_left
                 ·simp only [Act.put, qa, qb, qc, i64_w, i32_w]
                  rfl
                 refine pure_ (i := 11) (N := some 41) (v := ?_) (a' := ?_) #[o,o,o,o,o,o,o,o,z,o,o,o,z,z,z,z,z,z,z,z,z,z,z,z,z,z,z,z,z,z,z,z,z,z,z,z,z,z,z,z] rfl rfl (any_of HT_.out (by kernel_rfl)) (fun _ _ _ h => h) (Or.inl ⟨by rfl, ?_⟩) ?_ ?_
                 rotate_left
                 ·intro w'
                  go_simp
                  with_reducible rfl
                 rotate_left
                 ·simp only [Act.put, qa, qb, qc, i64_w, i32_w]
                  rfl
                 refine take_ (i := 8) (N := some 38) (v := ?_) (a' := ?_) #[o,o,o,o,o,o,o,o,o,o,o,o,z,z,z,z,z,z,z,z,z,z,z,z,z,z,z,z,z,z,z,z,z,z,z,z,z,z,z,z] rfl rfl (take_ofW HT_.out HW_.out (by kernel_rfl)) (fun _ _ _ h => h) (Or.inl ⟨by rfl, ?_⟩) hHeld ?_ ?_
                 rotate_left
                 ·rintro w' ⟨s0, s1, s2, s3, s4, s5, s6, s7, s8, s9, s10, s11, s12, s13, s14, s15, s16, s17, s18, s19, s20, s21, s22, s23, s24, s25, s26, s27, s28, s29, s30, s31⟩
                  go_simp
                  with_reducible rfl
                 rotate_left
                 ·simp only [Act.put, qa, qb, qc, i64_w, i32_w]
                  rfl
                 refine take_ (i := 12) (N := some 42) (v := ?_) (a' := ?_) #[o,o,o,o,o,o,o,o,o,o,o,o,o,z,z,z,z,z,z,z,z,z,z,z,z,z,z,z,z,z,z,z,z,z,z,z,z,z,z,z] rfl rfl (take_ofW HT_.out HW_.out (by kernel_rfl)) (fun _ _ _ h => h) (Or.inl ⟨by rfl, ?_⟩) hHeld ?_ ?_
                 rotate_left
                 ·rintro w' ⟨s0, s1, s2, s3, s4, s5, s6, s7, s8, s9, s10, s11, s12, s13, s14, s15, s16, s17, s18, s19, s20, s21, s22, s23, s24, s25, s26, s27, s28, s29, s30, s31⟩
                  go_simp
                  with_reducible rfl
                 rotate_left
                 ·simp only [Act.put, qa, qb, qc, i64_w, i32_w]
                  rfl
                 refine one_ (i := 13) (N := some 43) #[o,o,o,o,o,o,o,o,o,o,o,o,o,o,z,z,z,z,z,z,z,z,z,z,z,z,z,z,z,z,z,z,z,z,z,z,z,z,z,z] rfl rfl (one_of HT_.out (by kernel_rfl)) (by decide) (fun K hK => ?_)
                 refine goes_ Try.func53 (by kernel_rfl) rfl #[.agg #[.int .i64 ((rd_T84 l0 x25_2).f0), .int .i64 ((rd_T84 l0 x25_2).f1), .int .i64 ((rd_T84 l0 x25_2).f2.f0), .int .i64 ((rd_T84 l0 x25_2).f2.f1), .int .i64 ((rd_T84 l0 x25_2).f3), .int .i64 ((rd_T84 l0 x25_2).f4), .int .i64 ((rd_T84 l0 x25_2).f5.f0), .int .i64 ((rd_T84 l0 x25_2).f5.f1)], .agg #[.int .i64 ((rd_T84 l0 a1).f0), .int .i64 ((rd_T84 l0 a1).f1), .int .i64 ((rd_T84 l0 a1).f2.f0), .int .i64 ((rd_T84 l0 a1).f2.f1), .int .i64 ((rd_T84 l0 a1).f3), .int .i64 ((rd_T84 l0 a1).f4), .int .i64 ((rd_T84 l0 a1).f5.f0), .int .i64 ((rd_T84 l0 a1).f5.f1)]] (by rfl) rfl rfl (by (try simp only [List.map_toArray, List.map_cons, List.map_nil]); first | done | rfl | (simp only [List.length_drop, List.length_take]; rfl)) ?_
                 with_reducible refine (impl_IsBefore.calls k2 ((rd_T84 l0 x25_2).f0) ((rd_T84 l0 x25_2).f1) ((rd_T84 l0 x25_2).f2.f0) ((rd_T84 l0 x25_2).f2.f1) ((rd_T84 l0 x25_2).f3) ((rd_T84 l0 x25_2).f4) ((rd_T84 l0 x25_2).f5.f0) ((rd_T84 l0 x25_2).f5.f1) ((rd_T84 l0 a1).f0) ((rd_T84 l0 a1).f1) ((rd_T84 l0 a1).f2.f0) ((rd_T84 l0 a1).f2.f1) ((rd_T84 l0 a1).f3) ((rd_T84 l0 a1).f4) ((rd_T84 l0 a1).f5.f0) ((rd_T84 l0 a1).f5.f1) true _ A23.out).mono ?_
                 rintro e w41 ⟨rfl, hb⟩
                 refine ⟨_, rfl, ?_⟩
                 replace BK321 := am (blk_below (bB BK321.out) hb)
                 replace HB := am (below_step (sB HB.out) hb)
                 (try clear hb)
                 (try clear hb2)
                 (try clear hk)
                 (try clear hi)
                 refine hK.out _ _ ⟨(blk_cell BK321.out 0).trans rfl, (blk_cell BK321.out 1).trans rfl, (blk_cell BK321.out 2).trans rfl, (blk_cell BK321.out 3).trans rfl, (blk_cell BK321.out 4).trans rfl, (blk_cell BK321.out 5).trans rfl, (blk_cell BK321.out 6).trans rfl, (blk_cell BK321.out 7).trans rfl, (hc_ HB hw323_0), (hc_ HB hw323_1), (hc_ HB hw323_2), (hc_ HB hw323_3), (hc_ HB hw323_4), (hc_ HB hw323_5), (hc_ HB hw323_6), (hc_ HB hw323_7), (hc_ HB hw325_0), (hc_ HB hw325_1), (hc_ HB hw325_2), (hc_ HB hw325_3), (hc_ HB hw325_4), (hc_ HB hw325_5), (hc_ HB hw325_6), (hc_ HB hw325_7), (hc_ HB hw327_0), (hc_ HB hw327_1), (hc_ HB hw327_2), (hc_ HB hw327_3), (hc_ HB hw327_4), (hc_ HB hw327_5), (hc_ HB hw327_6), (hc_ HB hw327_7)⟩ (fun hHeld => ?_)
                 clear hK K
                 refine norm_ (a' := ?_) ?_ ?_
                 rotate_left
                 ·show Act.put _ (some 43) _ = _
                  simp only [Act.put, qa, qb, qc, i64_w, i32_w]
                  rfl
                 refine pure_ (i := 14) (N := some 44) (v := ?_) (a' := ?_) #[o,o,o,o,o,o,o,o,o,o,o,o,o,o,o,z,z,z,z,z,z,z,z,z,z,z,z,z,z,z,z,z,z,z,z,z,z,z,z,z] rfl rfl (any_of HT_.out (by kernel_rfl)) (fun _ _ _ h => h) (Or.inl ⟨by rfl, ?_⟩) ?_ ?_
                 rotate_left
                 ·intro w'
                  go_simp
                  with_reducible rfl
                 rotate_left
                 ·simp only [Act.put, qa, qb, qc, i64_w, i32_w]
                  rfl
                 refine pure_ (i := 15) (N := some 45) (v := ?_) (a' := ?_) #[o,o,o,o,o,o,o,o,o,o,o,o,o,o,o,o,z,z,z,z,z,z,z,z,z,z,z,z,z,z,z,z,z,z,z,z,z,z,z,z] rfl rfl (any_of HT_.out (by kernel_rfl)) (fun _ _ _ h => h) (Or.inl ⟨by rfl, ?_⟩) ?_ ?_
                 rotate_left
                 ·intro w'
                  go_simp
                  with_reducible rfl
                 rotate_left
                 ·simp only [Act.put, qa, qb, qc, i64_w, i32_w]
                  rfl
                 refine pure_ (i := 16) (N := some 46) (v := ?_) (a' := ?_) #[o,o,o,o,o,o,o,o,o,o,o,o,o,o,o,o,o,z,z,z,z,z,z,z,z,z,z,z,z,z,z,z,z,z,z,z,z,z,z,z] rfl rfl (any_of HT_.out (by kernel_rfl)) (fun _ _ _ h => h) (Or.inl ⟨by rfl, ?_⟩) ?_ ?_
                 rotate_left
                 ·intro w'
                  go_simp
                  with_reducible rfl
                 rotate_left
                 ·simp only [Act.put, qa, qb, qc, i64_w, i32_w]
                  rfl
                 refine pure_ (i := 17) (N := some 47) (v := ?_) (a' := ?_) #[o,o,o,o,o,o,o,o,o,o,o,o,o,o,o,o,o,o,z,z,z,z,z,z,z,z,z,z,z,z,z,z,z,z,z,z,z,z,z,z] rfl rfl (any_of HT_.out (by kernel_rfl)) (fun _ _ _ h => h) (Or.inl ⟨by rfl, ?_⟩) ?_ ?_
                 rotate_left
                 ·intro w'
                  go_simp
                  with_reducible rfl
                 rotate_left
                 ·simp only [Act.put, qa, qb, qc, i64_w, i32_w]
                  rfl
                 refine pure_ (i := 18) (N := some 48) (v := ?_) (a' := ?_) #[o,o,o,o,o,o,o,o,o,o,o,o,o,o,o,o,o,o,o,z,z,z,z,z,z,z,z,z,z,z,z,z,z,z,z,z,z,z,z,z] rfl rfl (any_of HT_.out (by kernel_rfl)) (fun _ _ _ h => h) (Or.inl ⟨by rfl, ?_⟩) ?_ ?_
                 rotate_left
                 ·intro w'
                  go_simp
                  with_reducible rfl
                 rotate_left
                 ·simp only [Act.put, qa, qb, qc, i64_w, i32_w]
                  rfl
                 refine pure_ (i := 19) (N := some 49) (v := ?_) (a' := ?_) #[o,o,o,o,o,o,o,o,o,o,o,o,o,o,o,o,o,o,o,o,z,z,z,z,z,z,z,z,z,z,z,z,z,z,z,z,z,z,z,z] rfl rfl (any_of HT_.out (by kernel_rfl)) (fun _ _ _ h => h) (Or.inl ⟨by rfl, ?_⟩) ?_ ?_
                 rotate_left
                 ·intro w'
                  go_simp
                  with_reducible rfl
                 rotate_left
                 ·simp only [Act.put, qa, qb, qc, i64_w, i32_w]
                  rfl
                 refine pure_ (i := 21) (N := some 51) (v := ?_) (a' := ?_) #[o,o,o,o,o,o,o,o,o,o,o,o,o,o,o,o,o,o,o,o,z,o,z,z,z,z,z,z,z,z,z,z,z,z,z,z,z,z,z,z] rfl rfl (any_of HT_.out (by kernel_rfl)) (fun _ _ _ h => h) (Or.inl ⟨by rfl, ?_⟩) ?_ ?_
                 rotate_left
                 ·intro w'
                  go_simp
                  with_reducible rfl
                 rotate_left
                 ·simp only [Act.put, qa, qb, qc, i64_w, i32_w]
                  rfl
                 refine take_ (i := 20) (N := some 50) (v := ?_) (a' := ?_) #[o,o,o,o,o,o,o,o,o,o,o,o,o,o,o,o,o,o,o,o,o,o,z,z,z,z,z,z,z,z,z,z,z,z,z,z,z,z,z,z] rfl rfl (take_ofW HT_.out HW_.out (by kernel_rfl)) (fun _ _ _ h => h) (Or.inl ⟨by rfl, ?_⟩) hHeld ?_ ?_
                 rotate_left
                 ·rintro w' ⟨s0, s1, s2, s3, s4, s5, s6, s7, s8, s9, s10, s11, s12, s13, s14, s15, s16, s17, s18, s19, s20, s21, s22, s23, s24, s25, s26, s27, s28, s29, s30, s31⟩
                  go_simp
                  with_reducible rfl
                 rotate_left
                 ·simp only [Act.put, qa, qb, qc, i64_w, i32_w]
                  rfl
                 refine take_ (i := 22) (N := some 52) (v := ?_) (a' := ?_) #[o,o,o,o,o,o,o,o,o,o,o,o,o,o,o,o,o,o,o,o,o,o,o,z,z,z,z,z,z,z,z,z,z,z,z,z,z,z,z,z] rfl rfl (take_ofW HT_.out HW_.out (by kernel_rfl)) (fun _ _ _ h => h) (Or.inl ⟨by rfl, ?_⟩) hHeld ?_ ?_
                 rotate_left
                 ·rintro w' ⟨s0, s1, s2, s3, s4, s5, s6, s7, s8, s9, s10, s11, s12, s13, s14, s15, s16, s17, s18, s19, s20, s21, s22, s23, s24, s25, s26, s27, s28, s29, s30, s31⟩
                  go_simp
                  with_reducible rfl
                 rotate_left
                 ·simp only [Act.put, qa, qb, qc, i64_w, i32_w]
                  rfl
                 refine one_ (i := 23) (N := some 53) #[o,o,o,o,o,o,o,o,o,o,o,o,o,o,o,o,o,o,o,o,o,o,o,o,z,z,z,z,z,z,z,z,z,z,z,z,z,z,z,z] rfl rfl (one_of HT_.out (by kernel_rfl)) (by decide) (fun K hK => ?_)
                 refine goes_ Try.func42 (by kernel_rfl) rfl #[.agg #[.int .i64 ((rd_T84 l0 a1).f2.f0), .int .i64 ((rd_T84 l0 a1).f2.f1)], .agg #[.int .i64 ((rd_T84 l0 x25_2).f2.f0), .int .i64 ((rd_T84 l0 x25_2).f2.f1)]] (by rfl) rfl rfl (by (try simp only [List.map_toArray, List.map_cons, List.map_nil]); first | done | rfl | (simp only [List.length_drop, List.length_take]; rfl)) ?_
                 with_reducible refine (impl_IsNarrower.calls ((rd_T84 l0 a1).f2.f0) ((rd_T84 l0 a1).f2.f1) ((rd_T84 l0 x25_2).f2.f0) ((rd_T84 l0 x25_2).f2.f1) true _ A25.out).mono ?_
                 rintro e w42 ⟨rfl, hb⟩
                 refine ⟨_, rfl, ?_⟩
                 replace BK321 := am (blk_below (bB BK321.out) hb)
                 replace HB := am (below_step (sB HB.out) hb)
                 (try clear hb)
                 (try clear hb2)
                 (try clear hk)
                 (try clear hi)
                 refine hK.out _ _ ⟨(blk_cell BK321.out 0).trans rfl, (blk_cell BK321.out 1).trans rfl, (blk_cell BK321.out 2).trans rfl, (blk_cell BK321.out 3).trans rfl, (blk_cell BK321.out 4).trans rfl, (blk_cell BK321.out 5).trans rfl, (blk_cell BK321.out 6).trans rfl, (blk_cell BK321.out 7).trans rfl, (hc_ HB hw323_0), (hc_ HB hw323_1), (hc_ HB hw323_2), (hc_ HB hw323_3), (hc_ HB hw323_4), (hc_ HB hw323_5), (hc_ HB hw323_6), (hc_ HB hw323_7), (hc_ HB hw325_0), (hc_ HB hw325_1), (hc_ HB hw325_2), (hc_ HB hw325_3), (hc_ HB hw325_4), (hc_ HB hw325_5), (hc_ HB hw325_6), (hc_ HB hw325_7), (hc_ HB hw327_0), (hc_ HB hw327_1), (hc_ HB hw327_2), (hc_ HB hw327_3), (hc_ HB hw327_4), (hc_ HB hw327_5), (hc_ HB hw327_6), (hc_ HB hw327_7)⟩ (fun hHeld => ?_)
                 clear hK K
                 refine norm_ (a' := ?_) ?_ ?_
                 rotate_left
                 ·show Act.put _ (some 53) _ = _
                  simp only [Act.put, qa, qb, qc, i64_w, i32_w]
                  rfl
                 refine pure_ (i := 24) (N := some 54) (v := ?_) (a' := ?_) #[o,o,o,o,o,o,o,o,o,o,o,o,o,o,o,o,o,o,o,o,o,o,o,o,o,z,z,z,z,z,z,z,z,z,z,z,z,z,z,z] rfl rfl (any_of HT_.out (by kernel_rfl)) (fun _ _ _ h => h) (Or.inl ⟨by rfl, ?_⟩) ?_ ?_
                 rotate_left
                 ·intro w'
                  go_simp
                  with_reducible rfl
                 rotate_left
                 ·simp only [Act.put, qa, qb, qc, i64_w, i32_w]
                  rfl
                 refine pure_ (i := 25) (N := some 55) (v := ?_) (a' := ?_) #[o,o,o,o,o,o,o,o,o,o,o,o,o,o,o,o,o,o,o,o,o,o,o,o,o,o,z,z,z,z,z,z,z,z,z,z,z,z,z,z] rfl rfl (any_of HT_.out (by kernel_rfl)) (fun _ _ _ h => h) (Or.inl ⟨by rfl, ?_⟩) ?_ ?_
                 rotate_left
                 ·intro w'
                  go_simp
                  with_reducible rfl
                 rotate_left
                 ·simp only [Act.put, qa, qb, qc, i64_w, i32_w]
                  rfl
                 refine pure_ (i := 26) (N := some 56) (v := ?_) (a' := ?_) #[o,o,o,o,o,o,o,o,o,o,o,o,o,o,o,o,o,o,o,o,o,o,o,o,o,o,o,z,z,z,z,z,z,z,z,z,z,z,z,z] rfl rfl (any_of HT_.out (by kernel_rfl)) (fun _ _ _ h => h) (Or.inl ⟨by rfl, ?_⟩) ?_ ?_
                 rotate_left
                 ·intro w'
                  go_simp
                  with_reducible rfl
                 rotate_left
                 ·simp only [Act.put, qa, qb, qc, i64_w, i32_w]
                  rfl
                 refine take_ (i := 27) (N := some 57) (v := ?_) (a' := ?_) #[o,o,o,o,o,o,o,o,o,o,o,o,o,o,o,o,o,o,o,o,o,o,o,o,o,o,o,o,z,z,z,z,z,z,z,z,z,z,z,z] rfl rfl (take_ofW HT_.out HW_.out (by kernel_rfl)) (fun _ _ _ h => h) (Or.inl ⟨by rfl, ?_⟩) hHeld ?_ ?_
                 rotate_left
                 ·rintro w' ⟨s0, s1, s2, s3, s4, s5, s6, s7, s8, s9, s10, s11, s12, s13, s14, s15, s16, s17, s18, s19, s20, s21, s22, s23, s24, s25, s26, s27, s28, s29, s30, s31⟩
                  go_simp
                  with_reducible rfl
                 rotate_left
                 ·simp only [Act.put, qa, qb, qc, i64_w, i32_w]
                  rfl
                 refine pure_ (i := 28) (N := some 58) (v := ?_) (a' := ?_) #[o,o,o,o,o,o,o,o,o,o,o,o,o,o,o,o,o,o,o,o,o,o,o,o,o,o,o,o,o,z,z,z,z,z,z,z,z,z,z,z] rfl rfl (any_of HT_.out (by kernel_rfl)) (fun _ _ _ h => h) (Or.inl ⟨by rfl, ?_⟩) ?_ ?_
                 rotate_left
                 ·intro w'
                  go_simp
                  with_reducible rfl
                 rotate_left
                 ·simp only [Act.put, qa, qb, qc, i64_w, i32_w]
                  rfl
                 refine pure_ (i := 29) (N := some 59) (v := ?_) (a' := ?_) #[o,o,o,o,o,o,o,o,o,o,o,o,o,o,o,o,o,o,o,o,o,o,o,o,o,o,o,o,o,o,z,z,z,z,z,z,z,z,z,z] rfl rfl (any_of HT_.out (by kernel_rfl)) (fun _ _ _ h => h) (Or.inl ⟨by rfl, ?_⟩) ?_ ?_
                 rotate_left
                 ·intro w'
                  go_simp
                  with_reducible rfl
                 rotate_left
                 ·simp only [Act.put, qa, qb, qc, i64_w, i32_w]
                  rfl
                 refine pure_ (i := 30) (N := some 60) (v := ?_) (a' := ?_) #[o,o,o,o,o,o,o,o,o,o,o,o,o,o,o,o,o,o,o,o,o,o,o,o,o,o,o,o,o,o,o,z,z,z,z,z,z,z,z,z] rfl rfl (any_of HT_.out (by kernel_rfl)) (fun _ _ _ h => h) (Or.inl ⟨by rfl, ?_⟩) ?_ ?_
                 rotate_left
                 ·intro w'
                  go_simp
                  with_reducible rfl
                 rotate_left
                 ·simp only [Act.put, qa, qb, qc, i64_w, i32_w]
                  rfl
                 refine pure_ (i := 32) (N := some 62) (v := ?_) (a' := ?_) #[o,o,o,o,o,o,o,o,o,o,o,o,o,o,o,o,o,o,o,o,o,o,o,o,o,o,o,o,o,o,o,z,o,z,z,z,z,z,z,z] rfl rfl (any_of HT_.out (by kernel_rfl)) (fun _ _ _ h => h) (Or.inl ⟨by rfl, ?_⟩) ?_ ?_
                 rotate_left
                 ·intro w'
                  go_simp
                  with_reducible rfl
                 rotate_left
                 ·simp only [Act.put, qa, qb, qc, i64_w, i32_w]
                  rfl
                 refine pure_ (i := 33) (N := some 63) (v := ?_) (a' := ?_) #[o,o,o,o,o,o,o,o,o,o,o,o,o,o,o,o,o,o,o,o,o,o,o,o,o,o,o,o,o,o,o,z,o,o,z,z,z,z,z,z] rfl rfl (any_of HT_.out (by kernel_rfl)) (fun _ _ _ h => h) (Or.inl ⟨by rfl, ?_⟩) ?_ ?_
                 rotate_left
                 ·intro w'
                  go_simp
                  with_reducible rfl
                 rotate_left
                 ·simp only [Act.put, qa, qb, qc, i64_w, i32_w]
                  rfl
                 refine pure_ (i := 34) (N := some 64) (v := ?_) (a' := ?_) #[o,o,o,o,o,o,o,o,o,o,o,o,o,o,o,o,o,o,o,o,o,o,o,o,o,o,o,o,o,o,o,z,o,o,o,z,z,z,z,z] rfl rfl (any_of HT_.out (by kernel_rfl)) (fun _ _ _ h => h) (Or.inl ⟨by rfl, ?_⟩) ?_ ?_
                 rotate_left
                 ·intro w'
                  go_simp
                  with_reducible rfl
                 rotate_left
                 ·simp only [Act.put, qa, qb, qc, i64_w, i32_w]
                  rfl
                 refine pure_ (i := 35) (N := some 65) (v := ?_) (a' := ?_) #[o,o,o,o,o,o,o,o,o,o,o,o,o,o,o,o,o,o,o,o,o,o,o,o,o,o,o,o,o,o,o,z,o,o,o,o,z,z,z,z] rfl rfl (any_of HT_.out (by kernel_rfl)) (fun _ _ _ h => h) (Or.inl ⟨by rfl, ?_⟩) ?_ ?_
                 rotate_left
                 ·intro w'
                  go_simp
                  with_reducible rfl
                 rotate_left
                 ·simp only [Act.put, qa, qb, qc, i64_w, i32_w]
                  rfl
                 refine take_ (i := 31) (N := some 61) (v := ?_) (a' := ?_) #[o,o,o,o,o,o,o,o,o,o,o,o,o,o,o,o,o,o,o,o,o,o,o,o,o,o,o,o,o,o,o,o,o,o,o,o,z,z,z,z] rfl rfl (take_ofW HT_.out HW_.out (by kernel_rfl)) (fun _ _ _ h => h) (Or.inl ⟨by rfl, ?_⟩) hHeld ?_ ?_
                 rotate_left
                 ·rintro w' ⟨s0, s1, s2, s3, s4, s5, s6, s7, s8, s9, s10, s11, s12, s13, s14, s15, s16, s17, s18, s19, s20, s21, s22, s23, s24, s25, s26, s27, s28, s29, s30, s31⟩
                  go_simp
                  with_reducible rfl
                 rotate_left
                 ·simp only [Act.put, qa, qb, qc, i64_w, i32_w]
                  rfl
                 refine take_ (i := 36) (N := some 66) (v := ?_) (a' := ?_) #[o,o,o,o,o,o,o,o,o,o,o,o,o,o,o,o,o,o,o,o,o,o,o,o,o,o,o,o,o,o,o,o,o,o,o,o,o,z,z,z] rfl rfl (take_ofW HT_.out HW_.out (by kernel_rfl)) (fun _ _ _ h => h) (Or.inl ⟨by rfl, ?_⟩) hHeld ?_ ?_
                 rotate_left
                 ·rintro w' ⟨s0, s1, s2, s3, s4, s5, s6, s7, s8, s9, s10, s11, s12, s13, s14, s15, s16, s17, s18, s19, s20, s21, s22, s23, s24, s25, s26, s27, s28, s29, s30, s31⟩
                  go_simp
                  with_reducible rfl
                 rotate_left
                 ·simp only [Act.put, qa, qb, qc, i64_w, i32_w]
                  rfl
                 refine pure_ (i := 37) (N := some 67) (v := ?_) (a' := ?_) #[o,o,o,o,o,o,o,o,o,o,o,o,o,o,o,o,o,o,o,o,o,o,o,o,o,o,o,o,o,o,o,o,o,o,o,o,o,o,z,z] rfl rfl (any_of HT_.out (by kernel_rfl)) (fun _ _ _ h => h) (Or.inl ⟨by rfl, ?_⟩) ?_ ?_
                 rotate_left
                 ·intro w'
                  go_simp
                  with_reducible rfl
                 rotate_left
                 ·simp only [Act.put, qa, qb, qc, i64_w, i32_w]
                  rfl
                 refine pure_ (i := 38) (N := some 68) (v := ?_) (a' := ?_) #[o,o,o,o,o,o,o,o,o,o,o,o,o,o,o,o,o,o,o,o,o,o,o,o,o,o,o,o,o,o,o,o,o,o,o,o,o,o,o,z] rfl rfl (any_of HT_.out (by kernel_rfl)) (fun _ _ _ h => h) (Or.inl ⟨by rfl, ?_⟩) ?_ ?_
                 rotate_left
                 ·intro w'
                  go_simp
                  with_reducible rfl
                 rotate_left
                 ·simp only [Act.put, qa, qb, qc, i64_w, i32_w]
                  rfl
                 refine pure_ (i := 39) (N := some 69) (v := ?_) (a' := ?_) #[o,o,o,o,o,o,o,o,o,o,o,o,o,o,o,o,o,o,o,o,o,o,o,o,o,o,o,o,o,o,o,o,o,o,o,o,o,o,o,o] rfl rfl (any_of HT_.out (by kernel_rfl)) (fun _ _ _ h => h) (Or.inl ⟨by rfl, ?_⟩) ?_ ?_
                 rotate_left
                 ·intro w'
                  go_simp
                  with_reducible rfl
                 rotate_left
                 ·simp only [Act.put, qa, qb, qc, i64_w, i32_w]
                  rfl
                 refine done_ (done_of HT_.out (by kernel_rfl)) ?_
                 try go_wp2
                 go_ret
                 exact ⟨by first | rfl | (simp [errW_none, errW_some] <;> rfl) | (simp [*, errW_none, errW_some] <;> rfl), sB HB.out⟩
                ·rw [if_neg c35] at H
                 have c35b0 : (((rd_T84 l0 x25_2).f3) == ((rd_T84 l0 a1).f3)) = false := beq_eq_false_iff_ne.mpr c35
                 have c35b1 : (((rd_T84 l0 x25_2).f3) != ((rd_T84 l0 a1).f3)) = true := bne_iff_ne.mpr c35
                 have H' := Aside0.mk H
                 clear H
                 have p320 : 0 ≤ (x25_2 : Int) := of_decide_eq_true (by first | (with_reducible assumption) | assumption)
                 have q320 : x25_2 < (l0.length : Int) := of_decide_eq_true (by first | (with_reducible assumption) | assumption)
                 obtain ⟨ad320, e320, hx320_0, hx320_1, hx320_2, hx320_3, hx320_4, hx320_5, hx320_6, hx320_7⟩ := at_T84 HR0.out x25_2 p320 q320
                 cases e320
                 replace hx320_0 := hc_ HB hx320_0
                 replace hx320_1 := hc_ HB hx320_1
                 replace hx320_2 := hc_ HB hx320_2
                 replace hx320_3 := hc_ HB hx320_3
                 replace hx320_4 := hc_ HB hx320_4
                 replace hx320_5 := hc_ HB hx320_5
                 replace hx320_6 := hc_ HB hx320_6
                 replace hx320_7 := hc_ HB hx320_7
                 replace p320 := eq_true p320
                 replace q320 := eq_true q320
                 try go_wp2_with (first | ((with_reducible refine gate_dst (N := 6) rfl ?_); (try (refine gate_guard (by rfl) ?_; dsimp only)); refine box_event ?hg (N := 6) ?hd (cs := #[.int .i64 0, .int .i64 0, .int .i64 0, .int .i64 0, .int .i64 0, .int .i64 0, .int .i64 0, .int .i64 0]) (t := 84) ?hr ?_; (case hd => rfl); (case hg => rfl); (case hr => first | (go_simp; done) | (go_simp; rfl)); intro gb321 hg w43 hbox hb; have q_ := hbx_ (sB HB.out) hg hb; have n0_ := q_.1; have n1_ := am (hbox); have n2_ := q_.2; have n3_ := n2_; clear HB; have HB := n0_; have BK321 := n1_; have GW321 := n2_; have GE321 := n3_; clear n0_ n1_ n2_ n3_ hb hbox hg; obtain ⟨hcz44_0, hcz44_1, hcz44_2, hcz44_3, hcz44_4, hcz44_5, hcz44_6, hcz44_7, hfz44_0, hfz44_1, hfz44_2, hfz44_3, hfz44_4, hfz44_5, hfz44_6, hfz44_7⟩ := blk8 BK321.out))
                 have n0_ : Aside0 (((((((((w43.setCell ⟨gb321, 0, none⟩ (.int .i64 ((rd_T84 l0 x25_2).f0))).setCell ⟨gb321, 1, none⟩ (.int .i64 ((rd_T84 l0 x25_2).f1))).setCell ⟨gb321, 2, none⟩ (.int .i64 ((rd_T84 l0 x25_2).f2.f0))).setCell ⟨gb321, 3, none⟩ (.int .i64 ((rd_T84 l0 x25_2).f2.f1))).setCell ⟨gb321, 4, none⟩ (.int .i64 ((rd_T84 l0 x25_2).f3))).setCell ⟨gb321, 5, none⟩ (.int .i64 ((rd_T84 l0 x25_2).f4))).setCell ⟨gb321, 6, none⟩ (.int .i64 ((rd_T84 l0 x25_2).f5.f0))).setCell ⟨gb321, 7, none⟩ (.int .i64 ((rd_T84 l0 x25_2).f5.f1))).heap[gb321]? = some (.cells #[.int .i64 ((rd_T84 l0 x25_2).f0), .int .i64 ((rd_T84 l0 x25_2).f1), .int .i64 ((rd_T84 l0 x25_2).f2.f0), .int .i64 ((rd_T84 l0 x25_2).f2.f1), .int .i64 ((rd_T84 l0 x25_2).f3), .int .i64 ((rd_T84 l0 x25_2).f4), .int .i64 ((rd_T84 l0 x25_2).f5.f0), .int .i64 ((rd_T84 l0 x25_2).f5.f1)] 84 (0, 0))) := ⟨by refine bB ?_; refine blk_put (cs := #[.int .i64 ((rd_T84 l0 x25_2).f0), .int .i64 ((rd_T84 l0 x25_2).f1), .int .i64 ((rd_T84 l0 x25_2).f2.f0), .int .i64 ((rd_T84 l0 x25_2).f2.f1), .int .i64 ((rd_T84 l0 x25_2).f3), .int .i64 ((rd_T84 l0 x25_2).f4), .int .i64 ((rd_T84 l0 x25_2).f5.f0), .int .i64 0]) ?_ 7 _ rfl; refine bB ?_; refine blk_put (cs := #[.int .i64 ((rd_T84 l0 x25_2).f0), .int .i64 ((rd_T84 l0 x25_2).f1), .int .i64 ((rd_T84 l0 x25_2).f2.f0), .int .i64 ((rd_T84 l0 x25_2).f2.f1), .int .i64 ((rd_T84 l0 x25_2).f3), .int .i64 ((rd_T84 l0 x25_2).f4), .int .i64 0, .int .i64 0]) ?_ 6 _ rfl; refine bB ?_; refine blk_put (cs := #[.int .i64 ((rd_T84 l0 x25_2).f0), .int .i64 ((rd_T84 l0 x25_2).f1), .int .i64 ((rd_T84 l0 x25_2).f2.f0), .int .i64 ((rd_T84 l0 x25_2).f2.f1), .int .i64 ((rd_T84 l0 x25_2).f3), .int .i64 0, .int .i64 0, .int .i64 0]) ?_ 5 _ rfl; refine bB ?_; refine blk_put (cs := #[.int .i64 ((rd_T84 l0 x25_2).f0), .int .i64 ((rd_T84 l0 x25_2).f1), .int .i64 ((rd_T84 l0 x25_2).f2.f0), .int .i64 ((rd_T84 l0 x25_2).f2.f1), .int .i64 0, .int .i64 0, .int .i64 0, .int .i64 0]) ?_ 4 _ rfl; refine bB ?_; refine blk_put (cs := #[.int .i64 ((rd_T84 l0 x25_2).f0), .int .i64 ((rd_T84 l0 x25_2).f1), .int .i64 ((rd_T84 l0 x25_2).f2.f0), .int .i64 0, .int .i64 0, .int .i64 0, .int .i64 0, .int .i64 0]) ?_ 3 _ rfl; refine bB ?_; refine blk_put (cs := #[.int .i64 ((rd_T84 l0 x25_2).f0), .int .i64 ((rd_T84 l0 x25_2).f1), .int .i64 0, .int .i64 0, .int .i64 0, .int .i64 0, .int .i64 0, .int .i64 0]) ?_ 2 _ rfl; refine bB ?_; refine blk_put (cs := #[.int .i64 ((rd_T84 l0 x25_2).f0), .int .i64 0, .int .i64 0, .int .i64 0, .int .i64 0, .int .i64 0, .int .i64 0, .int .i64 0]) ?_ 1 _ rfl; refine bB ?_; refine blk_put (cs := #[.int .i64 0, .int .i64 0, .int .i64 0, .int .i64 0, .int .i64 0, .int .i64 0, .int .i64 0, .int .i64 0]) ?_ 0 _ rfl; refine bB ?_; exact BK321.out⟩
                 have n1_ : Aside0 (Below w.heap.size w ((((((((w43.setCell ⟨gb321, 0, none⟩ (.int .i64 ((rd_T84 l0 x25_2).f0))).setCell ⟨gb321, 1, none⟩ (.int .i64 ((rd_T84 l0 x25_2).f1))).setCell ⟨gb321, 2, none⟩ (.int .i64 ((rd_T84 l0 x25_2).f2.f0))).setCell ⟨gb321, 3, none⟩ (.int .i64 ((rd_T84 l0 x25_2).f2.f1))).setCell ⟨gb321, 4, none⟩ (.int .i64 ((rd_T84 l0 x25_2).f3))).setCell ⟨gb321, 5, none⟩ (.int .i64 ((rd_T84 l0 x25_2).f4))).setCell ⟨gb321, 6, none⟩ (.int .i64 ((rd_T84 l0 x25_2).f5.f0))).setCell ⟨gb321, 7, none⟩ (.int .i64 ((rd_T84 l0 x25_2).f5.f1)))) := ⟨sB HB.out⟩
                 (try clear BK321)
                 (try clear HB)
                 generalize ((((((((w43.setCell ⟨gb321, 0, none⟩ (.int .i64 ((rd_T84 l0 x25_2).f0))).setCell ⟨gb321, 1, none⟩ (.int .i64 ((rd_T84 l0 x25_2).f1))).setCell ⟨gb321, 2, none⟩ (.int .i64 ((rd_T84 l0 x25_2).f2.f0))).setCell ⟨gb321, 3, none⟩ (.int .i64 ((rd_T84 l0 x25_2).f2.f1))).setCell ⟨gb321, 4, none⟩ (.int .i64 ((rd_T84 l0 x25_2).f3))).setCell ⟨gb321, 5, none⟩ (.int .i64 ((rd_T84 l0 x25_2).f4))).setCell ⟨gb321, 6, none⟩ (.int .i64 ((rd_T84 l0 x25_2).f5.f0))).setCell ⟨gb321, 7, none⟩ (.int .i64 ((rd_T84 l0 x25_2).f5.f1))) = w45 at n0_ n1_ ⊢
                 have BK321 := n0_
                 have HB := n1_
                 clear n0_ n1_
                 replace BK321 := am (blk_drew BK321.out)
                 replace HB := am (below_drew1 HB.out)
                 have p323 : 0 ≤ (a1 : Int) := of_decide_eq_true (by first | (with_reducible assumption) | assumption)
                 have q323 : a1 < (l0.length : Int) := of_decide_eq_true (by first | (with_reducible assumption) | assumption)
                 obtain ⟨ad323, e323, hx323_0, hx323_1, hx323_2, hx323_3, hx323_4, hx323_5, hx323_6, hx323_7⟩ := at_T84 HR0.out a1 p323 q323
                 have hw323_7 := hx323_7
                 have hw323_6 := hx323_6
                 have hw323_5 := hx323_5
                 have hw323_4 := hx323_4
                 have hw323_3 := hx323_3
                 have hw323_2 := hx323_2
                 have hw323_1 := hx323_1
                 have hw323_0 := hx323_0
                 obtain rfl : ad320 = ad323 := (by injection e323)
                 replace hx323_0 := hc_ HB hx323_0
                 replace hx323_1 := hc_ HB hx323_1
                 replace hx323_2 := hc_ HB hx323_2
                 replace hx323_3 := hc_ HB hx323_3
                 replace hx323_4 := hc_ HB hx323_4
                 replace hx323_5 := hc_ HB hx323_5
                 replace hx323_6 := hc_ HB hx323_6
                 replace hx323_7 := hc_ HB hx323_7
                 replace p323 := eq_true p323
                 replace q323 := eq_true q323
                 have p325 : 0 ≤ (a1 : Int) := of_decide_eq_true (by first | (with_reducible assumption) | assumption)
                 have q325 : a1 < (l0.length : Int) := of_decide_eq_true (by first | (with_reducible assumption) | assumption)
                 obtain ⟨ad325, e325, hx325_0, hx325_1, hx325_2, hx325_3, hx325_4, hx325_5, hx325_6, hx325_7⟩ := at_T84 HR0.out a1 p325 q325
                 have hw325_7 := hx325_7
                 have hw325_6 := hx325_6
                 have hw325_5 := hx325_5
                 have hw325_4 := hx325_4
                 have hw325_3 := hx325_3
                 have hw325_2 := hx325_2
                 have hw325_1 := hx325_1
                 have hw325_0 := hx325_0
                 obtain rfl : ad320 = ad325 := (by injection e325)
                 replace hx325_0 := hc_ HB hx325_0
                 replace hx325_1 := hc_ HB hx325_1
                 replace hx325_2 := hc_ HB hx325_2
                 replace hx325_3 := hc_ HB hx325_3
                 replace hx325_4 := hc_ HB hx325_4
                 replace hx325_5 := hc_ HB hx325_5
                 replace hx325_6 := hc_ HB hx325_6
                 replace hx325_7 := hc_ HB hx325_7
                 replace p325 := eq_true p325
                 replace q325 := eq_true q325
                 have p327 : 0 ≤ (a1 : Int) := of_decide_eq_true (by first | (with_reducible assumption) | assumption)
                 have q327 : a1 < (l0.length : Int) := of_decide_eq_true (by first | (with_reducible assumption) | assumption)
                 obtain ⟨ad327, e327, hx327_0, hx327_1, hx327_2, hx327_3, hx327_4, hx327_5, hx327_6, hx327_7⟩ := at_T84 HR0.out a1 p327 q327
                 have hw327_7 := hx327_7
                 have hw327_6 := hx327_6
                 have hw327_5 := hx327_5
                 have hw327_4 := hx327_4
                 have hw327_3 := hx327_3
                 have hw327_2 := hx327_2
                 have hw327_1 := hx327_1
                 have hw327_0 := hx327_0
                 obtain rfl : ad320 = ad327 := (by injection e327)
                 replace hx327_0 := hc_ HB hx327_0
                 replace hx327_1 := hc_ HB hx327_1
                 replace hx327_2 := hc_ HB hx327_2
                 replace hx327_3 := hc_ HB hx327_3
                 replace hx327_4 := hc_ HB hx327_4
                 replace hx327_5 := hc_ HB hx327_5
                 replace hx327_6 := hc_ HB hx327_6
                 replace hx327_7 := hc_ HB hx327_7
                 replace p327 := eq_true p327
                 replace q327 := eq_true q327
                 refine start_ (n := 40) (S := fun w' => w'.cell? ⟨gb321, 0, none⟩ = some (.int .i64 ((rd_T84 l0 x25_2).f0)) ∧ w'.cell? ⟨gb321, 1, none⟩ = some (.int .i64 ((rd_T84 l0 x25_2).f1)) ∧ w'.cell? ⟨gb321, 2, none⟩ = some (.int .i64 ((rd_T84 l0 x25_2).f2.f0)) ∧ w'.cell? ⟨gb321, 3, none⟩ = some (.int .i64 ((rd_T84 l0 x25_2).f2.f1)) ∧ w'.cell? ⟨gb321, 4, none⟩ = some (.int .i64 ((rd_T84 l0 x25_2).f3)) ∧ w'.cell? ⟨gb321, 5, none⟩ = some (.int .i64 ((rd_T84 l0 x25_2).f4)) ∧ w'.cell? ⟨gb321, 6, none⟩ = some (.int .i64 ((rd_T84 l0 x25_2).f5.f0)) ∧ w'.cell? ⟨gb321, 7, none⟩ = some (.int .i64 ((rd_T84 l0 x25_2).f5.f1)) ∧ w'.cell? (ad320.add ((a1).toNat * 8)) = some (.int .i64 ((rd_T84 l0 a1).f0)) ∧ w'.cell? ⟨(ad320.add ((a1).toNat * 8)).block, (ad320.add ((a1).toNat * 8)).off + 1, none⟩ = some (.int .i64 ((rd_T84 l0 a1).f1)) ∧ w'.cell? ⟨(ad320.add ((a1).toNat * 8)).block, (ad320.add ((a1).toNat * 8)).off + 2, none⟩ = some (.int .i64 ((rd_T84 l0 a1).f2.f0)) ∧ w'.cell? ⟨(ad320.add ((a1).toNat * 8)).block, (ad320.add ((a1).toNat * 8)).off + 3, none⟩ = some (.int .i64 ((rd_T84 l0 a1).f2.f1)) ∧ w'.cell? ⟨(ad320.add ((a1).toNat * 8)).block, (ad320.add ((a1).toNat * 8)).off + 4, none⟩ = some (.int .i64 ((rd_T84 l0 a1).f3)) ∧ w'.cell? ⟨(ad320.add ((a1).toNat * 8)).block, (ad320.add ((a1).toNat * 8)).off + 5, none⟩ = some (.int .i64 ((rd_T84 l0 a1).f4)) ∧ w'.cell? ⟨(ad320.add ((a1).toNat * 8)).block, (ad320.add ((a1).toNat * 8)).off + 6, none⟩ = some (.int .i64 ((rd_T84 l0 a1).f5.f0)) ∧ w'.cell? ⟨(ad320.add ((a1).toNat * 8)).block, (ad320.add ((a1).toNat * 8)).off + 7, none⟩ = some (.int .i64 ((rd_T84 l0 a1).f5.f1)) ∧ w'.cell? (ad320.add ((a1).toNat * 8)) = some (.int .i64 ((rd_T84 l0 a1).f0)) ∧ w'.cell? ⟨(ad320.add ((a1).toNat * 8)).block, (ad320.add ((a1).toNat * 8)).off + 1, none⟩ = some (.int .i64 ((rd_T84 l0 a1).f1)) ∧ w'.cell? ⟨(ad320.add ((a1).toNat * 8)).block, (ad320.add ((a1).toNat * 8)).off + 2, none⟩ = some (.int .i64 ((rd_T84 l0 a1).f2.f0)) ∧ w'.cell? ⟨(ad320.add ((a1).toNat * 8)).block, (ad320.add ((a1).toNat * 8)).off + 3, none⟩ = some (.int .i64 ((rd_T84 l0 a1).f2.f1)) ∧ w'.cell? ⟨(ad320.add ((a1).toNat * 8)).block, (ad320.add ((a1).toNat * 8)).off + 4, none⟩ = some (.int .i64 ((rd_T84 l0 a1).f3)) ∧ w'.cell? ⟨(ad320.add ((a1).toNat * 8)).block, (ad320.add ((a1).toNat * 8)).off + 5, none⟩ = some (.int .i64 ((rd_T84 l0 a1).f4)) ∧ w'.cell? ⟨(ad320.add ((a1).toNat * 8)).block, (ad320.add ((a1).toNat * 8)).off + 6, none⟩ = some (.int .i64 ((rd_T84 l0 a1).f5.f0)) ∧ w'.cell? ⟨(ad320.add ((a1).toNat * 8)).block, (ad320.add ((a1).toNat * 8)).off + 7, none⟩ = some (.int .i64 ((rd_T84 l0 a1).f5.f1)) ∧ w'.cell? (ad320.add ((a1).toNat * 8)) = some (.int .i64 ((rd_T84 l0 a1).f0)) ∧ w'.cell? ⟨(ad320.add ((a1).toNat * 8)).block, (ad320.add ((a1).toNat * 8)).off + 1, none⟩ = some (.int .i64 ((rd_T84 l0 a1).f1)) ∧ w'.cell? ⟨(ad320.add ((a1).toNat * 8)).block, (ad320.add ((a1).toNat * 8)).off + 2, none⟩ = some (.int .i64 ((rd_T84 l0 a1).f2.f0)) ∧ w'.cell? ⟨(ad320.add ((a1).toNat * 8)).block, (ad320.add ((a1).toNat * 8)).off + 3, none⟩ = some (.int .i64 ((rd_T84 l0 a1).f2.f1)) ∧ w'.cell? ⟨(ad320.add ((a1).toNat * 8)).block, (ad320.add ((a1).toNat * 8)).off + 4, none⟩ = some (.int .i64 ((rd_T84 l0 a1).f3)) ∧ w'.cell? ⟨(ad320.add ((a1).toNat * 8)).block, (ad320.add ((a1).toNat * 8)).off + 5, none⟩ = some (.int .i64 ((rd_T84 l0 a1).f4)) ∧ w'.cell? ⟨(ad320.add ((a1).toNat * 8)).block, (ad320.add ((a1).toNat * 8)).off + 6, none⟩ = some (.int .i64 ((rd_T84 l0 a1).f5.f0)) ∧ w'.cell? ⟨(ad320.add ((a1).toNat * 8)).block, (ad320.add ((a1).toNat * 8)).off + 7, none⟩ = some (.int .i64 ((rd_T84 l0 a1).f5.f1))) (ds := []) #[z,z,z,z,z,z,z,z,z,z,z,z,z,z,z,z,z,z,z,z,z,z,z,z,z,z,z,z,z,z,z,z,z,z,z,z,z,z,z,z] (by kernel_rfl) rfl rfl ⟨(blk_cell BK321.out 0).trans rfl, (blk_cell BK321.out 1).trans rfl, (blk_cell BK321.out 2).trans rfl, (blk_cell BK321.out 3).trans rfl, (blk_cell BK321.out 4).trans rfl, (blk_cell BK321.out 5).trans rfl, (blk_cell BK321.out 6).trans rfl, (blk_cell BK321.out 7).trans rfl, (hc_ HB hw323_0), (hc_ HB hw323_1), (hc_ HB hw323_2), (hc_ HB hw323_3), (hc_ HB hw323_4), (hc_ HB hw323_5), (hc_ HB hw323_6), (hc_ HB hw323_7), (hc_ HB hw325_0), (hc_ HB hw325_1), (hc_ HB hw325_2), (hc_ HB hw325_3), (hc_ HB hw325_4), (hc_ HB hw325_5), (hc_ HB hw325_6), (hc_ HB hw325_7), (hc_ HB hw327_0), (hc_ HB hw327_1), (hc_ HB hw327_2), (hc_ HB hw327_3), (hc_ HB hw327_4), (hc_ HB hw327_5), (hc_ HB hw327_6), (hc_ HB hw327_7)⟩ (fun hHeld => ?_); refine with_tabW impl_IsShadowed.tab6 impl_IsShadowed.bits6 (fun HT_ HW_ => ?_)
                 generalize w45.drew = w46 at BK321 HB hx323_0 hx323_1 hx323_2 hx323_3 hx323_4 hx323_5 hx323_6 hx323_7 hx325_0 hx325_1 hx325_2 hx325_3 hx325_4 hx325_5 hx325_6 hx325_7 hx327_0 hx327_1 hx327_2 hx327_3 hx327_4 hx327_5 hx327_6 hx327_7 hHeld ⊢
                 refine pure_ (i := 0) (N := some 30) (v := ?_) (a' := ?_) #[o,z,z,z,z,z,z,z,z,z,z,z,z,z,z,z,z,z,z,z,z,z,z,z,z,z,z,z,z,z,z,z,z,z,z,z,z,z,z,z] rfl rfl (any_of HT_.out (by kernel_rfl)) (fun _ _ _ h => h) (Or.inl ⟨by rfl, ?_⟩) ?_ ?_
                 rotate_left
                 ·intro w'
                  go_simp
                  with_reducible rfl
                 rotate_left
                 ·simp only [Act.put, qa, qb, qc, i64_w, i32_w]
                  rfl
                 refine pure_ (i := 1) (N := some 31) (v := ?_) (a' := ?_) #[o,o,z,z,z,z,z,z,z,z,z,z,z,z,z,z,z,z,z,z,z,z,z,z,z,z,z,z,z,z,z,z,z,z,z,z,z,z,z,z] rfl rfl (any_of HT_.out (by kernel_rfl)) (fun _ _ _ h => h) (Or.inl ⟨by rfl, ?_⟩) ?_ ?_
                 rotate_left
                 ·intro w'
                  go_simp
                  with_reducible rfl
                 rotate_left
                 ·simp only [Act.put, qa, qb, qc, i64_w, i32_w]
                  rfl
                 refine pure_ (i := 2) (N := some 32) (v := ?_) (a' := ?_) #[o,o,o,z,z,z,z,z,z,z,z,z,z,z,z,z,z,z,z,z,z,z,z,z,z,z,z,z,z,z,z,z,z,z,z,z,z,z,z,z] rfl rfl (any_of HT_.out (by kernel_rfl)) (fun _ _ _ h => h) (Or.inl ⟨by rfl, ?_⟩) ?_ ?_
                 rotate_left
                 ·intro w'
                  go_simp
                  with_reducible rfl
                 rotate_left
                 ·simp only [Act.put, qa, qb, qc, i64_w, i32_w]
                  rfl
                 refine pure_ (i := 3) (N := some 33) (v := ?_) (a' := ?_) #[o,o,o,o,z,z,z,z,z,z,z,z,z,z,z,z,z,z,z,z,z,z,z,z,z,z,z,z,z,z,z,z,z,z,z,z,z,z,z,z] rfl rfl (any_of HT_.out (by kernel_rfl)) (fun _ _ _ h => h) (Or.inl ⟨by rfl, ?_⟩) ?_ ?_
                 rotate_left
                 ·intro w'
                  go_simp
                  with_reducible rfl
                 rotate_left
                 ·simp only [Act.put, qa, qb, qc, i64_w, i32_w]
                  rfl
                 refine take_ (i := 4) (N := some 34) (v := ?_) (a' := ?_) #[o,o,o,o,o,z,z,z,z,z,z,z,z,z,z,z,z,z,z,z,z,z,z,z,z,z,z,z,z,z,z,z,z,z,z,z,z,z,z,z] rfl rfl (take_ofW HT_.out HW_.out (by kernel_rfl)) (fun _ _ _ h => h) (Or.inl ⟨by rfl, ?_⟩) hHeld ?_ ?_
                 rotate_left
                 ·rintro w' ⟨s0, s1, s2, s3, s4, s5, s6, s7, s8, s9, s10, s11, s12, s13, s14, s15, s16, s17, s18, s19, s20, s21, s22, s23, s24, s25, s26, s27, s28, s29, s30, s31⟩
                  go_simp
                  with_reducible rfl
                 rotate_left
                 ·simp only [Act.put, qa, qb, qc, i64_w, i32_w]
                  rfl
                 refine one_ (i := 5) (N := some 35) #[o,o,o,o,o,o,z,z,z,z,z,z,z,z,z,z,z,z,z,z,z,z,z,z,z,z,z,z,z,z,z,z,z,z,z,z,z,z,z,z] rfl rfl (one_of HT_.out (by kernel_rfl)) (by decide) (fun K hK => ?_)
                 refine goes_ Try.func56 (by kernel_rfl) rfl #[.agg #[.int .i64 ((rd_T84 l0 x25_2).f0), .int .i64 ((rd_T84 l0 x25_2).f1), .int .i64 ((rd_T84 l0 x25_2).f2.f0), .int .i64 ((rd_T84 l0 x25_2).f2.f1), .int .i64 ((rd_T84 l0 x25_2).f3), .int .i64 ((rd_T84 l0 x25_2).f4), .int .i64 ((rd_T84 l0 x25_2).f5.f0), .int .i64 ((rd_T84 l0 x25_2).f5.f1)]] (by rfl) rfl rfl (by (try simp only [List.map_toArray, List.map_cons, List.map_nil]); first | done | rfl | (simp only [List.length_drop, List.length_take]; rfl)) ?_
                 with_reducible refine (impl_IsRule.calls k2 ((rd_T84 l0 x25_2).f0) ((rd_T84 l0 x25_2).f1) ((rd_T84 l0 x25_2).f2.f0) ((rd_T84 l0 x25_2).f2.f1) ((rd_T84 l0 x25_2).f3) ((rd_T84 l0 x25_2).f4) ((rd_T84 l0 x25_2).f5.f0) ((rd_T84 l0 x25_2).f5.f1) true _ A19.out).mono ?_
                 rintro e w47 ⟨rfl, hb⟩
                 refine ⟨_, rfl, ?_⟩
                 replace BK321 := am (blk_below (bB BK321.out) hb)
                 replace HB := am (below_step (sB HB.out) hb)
                 (try clear hb)
                 (try clear hb2)
                 (try clear hk)
                 (try clear hi)
                 refine hK.out _ _ ⟨(blk_cell BK321.out 0).trans rfl, (blk_cell BK321.out 1).trans rfl, (blk_cell BK321.out 2).trans rfl, (blk_cell BK321.out 3).trans rfl, (blk_cell BK321.out 4).trans rfl, (blk_cell BK321.out 5).trans rfl, (blk_cell BK321.out 6).trans rfl, (blk_cell BK321.out 7).trans rfl, (hc_ HB hw323_0), (hc_ HB hw323_1), (hc_ HB hw323_2), (hc_ HB hw323_3), (hc_ HB hw323_4), (hc_ HB hw323_5), (hc_ HB hw323_6), (hc_ HB hw323_7), (hc_ HB hw325_0), (hc_ HB hw325_1), (hc_ HB hw325_2), (hc_ HB hw325_3), (hc_ HB hw325_4), (hc_ HB hw325_5), (hc_ HB hw325_6), (hc_ HB hw325_7), (hc_ HB hw327_0), (hc_ HB hw327_1), (hc_ HB hw327_2), (hc_ HB hw327_3), (hc_ HB hw327_4), (hc_ HB hw327_5), (hc_ HB hw327_6), (hc_ HB hw327_7)⟩ (fun hHeld => ?_)
                 clear hK K
                 refine norm_ (a' := ?_) ?_ ?_
                 rotate_left
                 ·show Act.put _ (some 35) _ = _
                  simp only [Act.put, qa, qb, qc, i64_w, i32_w]
                  rfl
                 refine pure_ (i := 6) (N := some 36) (v := ?_) (a' := ?_) #[o,o,o,o,o,o,o,z,z,z,z,z,z,z,z,z,z,z,z,z,z,z,z,z,z,z,z,z,z,z,z,z,z,z,z,z,z,z,z,z] rfl rfl (any_of HT_.out (by kernel_rfl)) (fun _ _ _ h => h) (Or.inl ⟨by rfl, ?_⟩) ?_ ?_
                 rotate_left
                 ·intro w'
                  go_simp
                  with_reducible rfl
                 rotate_left
                 ·simp only [Act.put, qa, qb, qc, i64_w, i32_w]
                  rfl
                 refine pure_ (i := 7) (N := some 37) (v := ?_) (a' := ?_) #[o,o,o,o,o,o,o,o,z,z,z,z,z,z,z,z,z,z,z,z,z,z,z,z,z,z,z,z,z,z,z,z,z,z,z,z,z,z,z,z] rfl rfl (any_of HT_.out (by kernel_rfl)) (fun _ _ _ h => h) (Or.inl ⟨by rfl, ?_⟩) ?_ ?_
                 rotate_left
                 ·intro w'
                  go_simp
                  with_reducible rfl
                 rotate_left
                 ·simp only [Act.put, qa, qb, qc, i64_w, i32_w]
                  rfl
                 refine pure_ (i := 9) (N := some 39) (v := ?_) (a' := ?_) #[o,o,o,o,o,o,o,o,z,o,z,z,z,z,z,z,z,z,z,z,z,z,z,z,z,z,z,z,z,z,z,z,z,z,z,z,z,z,z,z] rfl rfl (any_of HT_.out (by kernel_rfl)) (fun _ _ _ h => h) (Or.inl ⟨by rfl, ?_⟩) ?_ ?_
                 rotate_left
                 ·intro w'
                  go_simp
                  with_reducible rfl
                 rotate_left
                 ·simp only [Act.put, qa, qb, qc, i64_w, i32_w]
                  rfl
                 refine pure_ (i := 10) (N := some 40) (v := ?_) (a' := ?_) #[o,o,o,o,o,o,o,o,z,o,o,z,z,z,z,z,z,z,z,z,z,z,z,z,z,z,z,z,z,z,z,z,z,z,z,z,z,z,z,z] rfl rfl (any_of HT_.out (by kernel_rfl)) (fun _ _ _ h => h) (Or.inl ⟨by rfl, ?_⟩) ?_ ?_
                 rotate_left
                 ·intro w'
                  go_simp
                  with_reducible rfl
                 rotate_left
                 ·simp only [Act.put, qa, qb, qc, i64_w, i32_w]
                  rfl
                 refine pure_ (i := 11) (N := some 41) (v := ?_) (a' := ?_) #[o,o,o,o,o,o,o,o,z,o,o,o,z,z,z,z,z,z,z,z,z,z,z,z,z,z,z,z,z,z,z,z,z,z,z,z,z,z,z,z] rfl rfl (any_of HT_.out (by kernel_rfl)) (fun _ _ _ h => h) (Or.inl ⟨by rfl, ?_⟩) ?_ ?_
                 rotate_left
                 ·intro w'
                  go_simp
                  with_reducible rfl
                 rotate_left
                 ·simp only [Act.put, qa, qb, qc, i64_w, i32_w]
                  rfl
                 refine take_ (i := 8) (N := some 38) (v := ?_) (a' := ?_) #[o,o,o,o,o,o,o,o,o,o,o,o,z,z,z,z,z,z,z,z,z,z,z,z,z,z,z,z,z,z,z,z,z,z,z,z,z,z,z,z] rfl rfl (take_ofW HT_.out HW_.out (by kernel_rfl)) (fun _ _ _ h => h) (Or.inl ⟨by rfl, ?_⟩) hHeld ?_ ?_
                 rotate_left
                 ·rintro w' ⟨s0, s1, s2, s3, s4, s5, s6, s7, s8, s9, s10, s11, s12, s13, s14, s15, s16, s17, s18, s19, s20, s21, s22, s23, s24, s25, s26, s27, s28, s29, s30, s31⟩
                  go_simp
                  with_reducible rfl
                 rotate_left
                 ·simp only [Act.put, qa, qb, qc, i64_w, i32_w]
                  rfl
                 refine take_ (i := 12) (N := some 42) (v := ?_) (a' := ?_) #[o,o,o,o,o,o,o,o,o,o,o,o,o,z,z,z,z,z,z,z,z,z,z,z,z,z,z,z,z,z,z,z,z,z,z,z,z,z,z,z] rfl rfl (take_ofW HT_.out HW_.out (by kernel_rfl)) (fun _ _ _ h => h) (Or.inl ⟨by rfl, ?_⟩) hHeld ?_ ?_
                 rotate_left
                 ·rintro w' ⟨s0, s1, s2, s3, s4, s5, s6, s7, s8, s9, s10, s11, s12, s13, s14, s15, s16, s17, s18, s19, s20, s21, s22, s23, s24, s25, s26, s27, s28, s29, s30, s31⟩
                  go_simp
                  with_reducible rfl
                 rotate_left
                 ·simp only [Act.put, qa, qb, qc, i64_w, i32_w]
                  rfl
                 refine one_ (i := 13) (N := some 43) #[o,o,o,o,o,o,o,o,o,o,o,o,o,o,z,z,z,z,z,z,z,z,z,z,z,z,z,z,z,z,z,z,z,z,z,z,z,z,z,z] rfl rfl (one_of HT_.out (by kernel_rfl)) (by decide) (fun K hK => ?_)
                 refine goes_ Try.func53 (by kernel_rfl) rfl #[.agg #[.int .i64 ((rd_T84 l0 x25_2).f0), .int .i64 ((rd_T84 l0 x25_2).f1), .int .i64 ((rd_T84 l0 x25_2).f2.f0), .int .i64 ((rd_T84 l0 x25_2).f2.f1), .int .i64 ((rd_T84 l0 x25_2).f3), .int .i64 ((rd_T84 l0 x25_2).f4), .int .i64 ((rd_T84 l0 x25_2).f5.f0), .int .i64 ((rd_T84 l0 x25_2).f5.f1)], .agg #[.int .i64 ((rd_T84 l0 a1).f0), .int .i64 ((rd_T84 l0 a1).f1), .int .i64 ((rd_T84 l0 a1).f2.f0), .int .i64 ((rd_T84 l0 a1).f2.f1), .int .i64 ((rd_T84 l0 a1).f3), .int .i64 ((rd_T84 l0 a1).f4), .int .i64 ((rd_T84 l0 a1).f5.f0), .int .i64 ((rd_T84 l0 a1).f5.f1)]] (by rfl) rfl rfl (by (try simp only [List.map_toArray, List.map_cons, List.map_nil]); first | done | rfl | (simp only [List.length_drop, List.length_take]; rfl)) ?_
                 with_reducible refine (impl_IsBefore.calls k2 ((rd_T84 l0 x25_2).f0) ((rd_T84 l0 x25_2).f1) ((rd_T84 l0 x25_2).f2.f0) ((rd_T84 l0 x25_2).f2.f1) ((rd_T84 l0 x25_2).f3) ((rd_T84 l0 x25_2).f4) ((rd_T84 l0 x25_2).f5.f0) ((rd_T84 l0 x25_2).f5.f1) ((rd_T84 l0 a1).f0) ((rd_T84 l0 a1).f1) ((rd_T84 l0 a1).f2.f0) ((rd_T84 l0 a1).f2.f1) ((rd_T84 l0 a1).f3) ((rd_T84 l0 a1).f4) ((rd_T84 l0 a1).f5.f0) ((rd_T84 l0 a1).f5.f1) true _ A23.out).mono ?_
                 rintro e w48 ⟨rfl, hb⟩
                 refine ⟨_, rfl, ?_⟩
                 replace BK321 := am (blk_below (bB BK321.out) hb)
                 replace HB := am (below_step (sB HB.out) hb)
                 (try clear hb)
                 (try clear hb2)
                 (try clear hk)
                 (try clear hi)
                 refine hK.out _ _ ⟨(blk_cell BK321.out 0).trans rfl, (blk_cell BK321.out 1).trans rfl, (blk_cell BK321.out 2).trans rfl, (blk_cell BK321.out 3).trans rfl, (blk_cell BK321.out 4).trans rfl, (blk_cell BK321.out 5).trans rfl, (blk_cell BK321.out 6).trans rfl, (blk_cell BK321.out 7).trans rfl, (hc_ HB hw323_0), (hc_ HB hw323_1), (hc_ HB hw323_2), (hc_ HB hw323_3), (hc_ HB hw323_4), (hc_ HB hw323_5), (hc_ HB hw323_6), (hc_ HB hw323_7), (hc_ HB hw325_0), (hc_ HB hw325_1), (hc_ HB hw325_2), (hc_ HB hw325_3), (hc_ HB hw325_4), (hc_ HB hw325_5), (hc_ HB hw325_6), (hc_ HB hw325_7), (hc_ HB hw327_0), (hc_ HB hw327_1), (hc_ HB hw327_2), (hc_ HB hw327_3), (hc_ HB hw327_4), (hc_ HB hw327_5), (hc_ HB hw327_6), (hc_ HB hw327_7)⟩ (fun hHeld => ?_)
                 clear hK K
                 refine norm_ (a' := ?_) ?_ ?_
                 rotate_left
                 ·show Act.put _ (some 43) _ = _
                  simp only [Act.put, qa, qb, qc, i64_w, i32_w]
                  rfl
                 refine pure_ (i := 14) (N := some 44) (v := ?_) (a' := ?_) #[o,o,o,o,o,o,o,o,o,o,o,o,o,o,o,z,z,z,z,z,z,z,z,z,z,z,z,z,z,z,z,z,z,z,z,z,z,z,z,z] rfl rfl (any_of HT_.out (by kernel_rfl)) (fun _ _ _ h => h) (Or.inl ⟨by rfl, ?_⟩) ?_ ?_
                 rotate_left
                 ·intro w'
                  go_simp
                  with_reducible rfl
                 rotate_left
                 ·simp only [Act.put, qa, qb, qc, i64_w, i32_w]
                  rfl
                 refine pure_ (i := 15) (N := some 45) (v := ?_) (a' := ?_) #[o,o,o,o,o,o,o,o,o,o,o,o,o,o,o,o,z,z,z,z,z,z,z,z,z,z,z,z,z,z,z,z,z,z,z,z,z,z,z,z] rfl rfl (any_of HT_.out (by kernel_rfl)) (fun _ _ _ h => h) (Or.inl ⟨by rfl, ?_⟩) ?_ ?_
                 rotate_left
                 ·intro w'
                  go_simp
                  with_reducible rfl
                 rotate_left
                 ·simp only [Act.put, qa, qb, qc, i64_w, i32_w]
                  rfl
                 refine pure_ (i := 16) (N := some 46) (v := ?_) (a' := ?_) #[o,o,o,o,o,o,o,o,o,o,o,o,o,o,o,o,o,z,z,z,z,z,z,z,z,z,z,z,z,z,z,z,z,z,z,z,z,z,z,z] rfl rfl (any_of HT_.out (by kernel_rfl)) (fun _ _ _ h => h) (Or.inl ⟨by rfl, ?_⟩) ?_ ?_
                 rotate_left
                 ·intro w'
                  go_simp
                  with_reducible rfl
                 rotate_left
                 ·simp only [Act.put, qa, qb, qc, i64_w, i32_w]
                  rfl
                 refine pure_ (i := 17) (N := some 47) (v := ?_) (a' := ?_) #[o,o,o,o,o,o,o,o,o,o,o,o,o,o,o,o,o,o,z,z,z,z,z,z,z,z,z,z,z,z,z,z,z,z,z,z,z,z,z,z] rfl rfl (any_of HT_.out (by kernel_rfl)) (fun _ _ _ h => h) (Or.inl ⟨by rfl, ?_⟩) ?_ ?_
                 rotate_left
                 ·intro w'
                  go_simp
                  with_reducible rfl
                 rotate_left
                 ·simp only [Act.put, qa, qb, qc, i64_w, i32_w]
                  rfl
                 refine pure_ (i := 18) (N := some 48) (v := ?_) (a' := ?_) #[o,o,o,o,o,o,o,o,o,o,o,o,o,o,o,o,o,o,o,z,z,z,z,z,z,z,z,z,z,z,z,z,z,z,z,z,z,z,z,z] rfl rfl (any_of HT_.out (by kernel_rfl)) (fun _ _ _ h => h) (Or.inl ⟨by rfl, ?_⟩) ?_ ?_
                 rotate_left
                 ·intro w'
                  go_simp
                  with_reducible rfl
                 rotate_left
                 ·simp only [Act.put, qa, qb, qc, i64_w, i32_w]
                  rfl
                 refine pure_ (i := 19) (N := some 49) (v := ?_) (a' := ?_) #[o,o,o,o,o,o,o,o,o,o,o,o,o,o,o,o,o,o,o,o,z,z,z,z,z,z,z,z,z,z,z,z,z,z,z,z,z,z,z,z] rfl rfl (any_of HT_.out (by kernel_rfl)) (fun _ _ _ h => h) (Or.inl ⟨by rfl, ?_⟩) ?_ ?_
                 rotate_left
                 ·intro w'
                  go_simp
                  with_reducible rfl
                 rotate_left
                 ·simp only [Act.put, qa, qb, qc, i64_w, i32_w]
                  rfl
                 refine pure_ (i := 21) (N := some 51) (v := ?_) (a' := ?_) #[o,o,o,o,o,o,o,o,o,o,o,o,o,o,o,o,o,o,o,o,z,o,z,z,z,z,z,z,z,z,z,z,z,z,z,z,z,z,z,z] rfl rfl (any_of HT_.out (by kernel_rfl)) (fun _ _ _ h => h) (Or.inl ⟨by rfl, ?_⟩) ?_ ?_
                 rotate_left
                 ·intro w'
                  go_simp
                  with_reducible rfl
                 rotate_left
                 ·simp only [Act.put, qa, qb, qc, i64_w, i32_w]
                  rfl
                 refine take_ (i := 20) (N := some 50) (v := ?_) (a' := ?_) #[o,o,o,o,o,o,o,o,o,o,o,o,o,o,o,o,o,o,o,o,o,o,z,z,z,z,z,z,z,z,z,z,z,z,z,z,z,z,z,z] rfl rfl (take_ofW HT_.out HW_.out (by kernel_rfl)) (fun _ _ _ h => h) (Or.inl ⟨by rfl, ?_⟩) hHeld ?_ ?_
                 rotate_left
                 ·rintro w' ⟨s0, s1, s2, s3, s4, s5, s6, s7, s8, s9, s10, s11, s12, s13, s14, s15, s16, s17, s18, s19, s20, s21, s22, s23, s24, s25, s26, s27, s28, s29, s30, s31⟩
                  go_simp
                  with_reducible rfl
                 rotate_left
                 ·simp only [Act.put, qa, qb, qc, i64_w, i32_w]
                  rfl
                 refine take_ (i := 22) (N := some 52) (v := ?_) (a' := ?_) #[o,o,o,o,o,o,o,o,o,o,o,o,o,o,o,o,o,o,o,o,o,o,o,z,z,z,z,z,z,z,z,z,z,z,z,z,z,z,z,z] rfl rfl (take_ofW HT_.out HW_.out (by kernel_rfl)) (fun _ _ _ h => h) (Or.inl ⟨by rfl, ?_⟩) hHeld ?_ ?_
                 rotate_left
                 ·rintro w' ⟨s0, s1, s2, s3, s4, s5, s6, s7, s8, s9, s10, s11, s12, s13, s14, s15, s16, s17, s18, s19, s20, s21, s22, s23, s24, s25, s26, s27, s28, s29, s30, s31⟩
                  go_simp
                  with_reducible rfl
                 rotate_left
                 ·simp only [Act.put, qa, qb, qc, i64_w, i32_w]
                  rfl
                 refine one_ (i := 23) (N := some 53) #[o,o,o,o,o,o,o,o,o,o,o,o,o,o,o,o,o,o,o,o,o,o,o,o,z,z,z,z,z,z,z,z,z,z,z,z,z,z,z,z] rfl rfl (one_of HT_.out (by kernel_rfl)) (by decide) (fun K hK => ?_)
                 refine goes_ Try.func42 (by kernel_rfl) rfl #[.agg #[.int .i64 ((rd_T84 l0 a1).f2.f0), .int .i64 ((rd_T84 l0 a1).f2.f1)], .agg #[.int .i64 ((rd_T84 l0 x25_2).f2.f0), .int .i64 ((rd_T84 l0 x25_2).f2.f1)]] (by rfl) rfl rfl (by (try simp only [List.map_toArray, List.map_cons, List.map_nil]); first | done | rfl | (simp only [List.length_drop, List.length_take]; rfl)) ?_
                 with_reducible refine (impl_IsNarrower.calls ((rd_T84 l0 a1).f2.f0) ((rd_T84 l0 a1).f2.f1) ((rd_T84 l0 x25_2).f2.f0) ((rd_T84 l0 x25_2).f2.f1) true _ A25.out).mono ?_
                 rintro e w49 ⟨rfl, hb⟩
                 refine ⟨_, rfl, ?_⟩
                 replace BK321 := am (blk_below (bB BK321.out) hb)
                 replace HB := am (below_step (sB HB.out) hb)
                 (try clear hb)
                 (try clear hb2)
                 (try clear hk)
                 (try clear hi)
                 refine hK.out _ _ ⟨(blk_cell BK321.out 0).trans rfl, (blk_cell BK321.out 1).trans rfl, (blk_cell BK321.out 2).trans rfl, (blk_cell BK321.out 3).trans rfl, (blk_cell BK321.out 4).trans rfl, (blk_cell BK321.out 5).trans rfl, (blk_cell BK321.out 6).trans rfl, (blk_cell BK321.out 7).trans rfl, (hc_ HB hw323_0), (hc_ HB hw323_1), (hc_ HB hw323_2), (hc_ HB hw323_3), (hc_ HB hw323_4), (hc_ HB hw323_5), (hc_ HB hw323_6), (hc_ HB hw323_7), (hc_ HB hw325_0), (hc_ HB hw325_1), (hc_ HB hw325_2), (hc_ HB hw325_3), (hc_ HB hw325_4), (hc_ HB hw325_5), (hc_ HB hw325_6), (hc_ HB hw325_7), (hc_ HB hw327_0), (hc_ HB hw327_1), (hc_ HB hw327_2), (hc_ HB hw327_3), (hc_ HB hw327_4), (hc_ HB hw327_5), (hc_ HB hw327_6), (hc_ HB hw327_7)⟩ (fun hHeld => ?_)
                 clear hK K
                 refine norm_ (a' := ?_) ?_ ?_
                 rotate_left
                 ·show Act.put _ (some 53) _ = _
                  simp only [Act.put, qa, qb, qc, i64_w, i32_w]
                  rfl
                 refine pure_ (i := 24) (N := some 54) (v := ?_) (a' := ?_) #[o,o,o,o,o,o,o,o,o,o,o,o,o,o,o,o,o,o,o,o,o,o,o,o,o,z,z,z,z,z,z,z,z,z,z,z,z,z,z,z] rfl rfl (any_of HT_.out (by kernel_rfl)) (fun _ _ _ h => h) (Or.inl ⟨by rfl, ?_⟩) ?_ ?_
                 rotate_left
                 ·intro w'
                  go_simp
                  with_reducible rfl
                 rotate_left
                 ·simp only [Act.put, qa, qb, qc, i64_w, i32_w]
                  rfl
                 refine pure_ (i := 25) (N := some 55) (v := ?_) (a' := ?_) #[o,o,o,o,o,o,o,o,o,o,o,o,o,o,o,o,o,o,o,o,o,o,o,o,o,o,z,z,z,z,z,z,z,z,z,z,z,z,z,z] rfl rfl (any_of HT_.out (by kernel_rfl)) (fun _ _ _ h => h) (Or.inl ⟨by rfl, ?_⟩) ?_ ?_
                 rotate_left
                 ·intro w'
                  go_simp
                  with_reducible rfl
                 rotate_left
                 ·simp only [Act.put, qa, qb, qc, i64_w, i32_w]
                  rfl
                 refine pure_ (i := 26) (N := some 56) (v := ?_) (a' := ?_) #[o,o,o,o,o,o,o,o,o,o,o,o,o,o,o,o,o,o,o,o,o,o,o,o,o,o,o,z,z,z,z,z,z,z,z,z,z,z,z,z] rfl rfl (any_of HT_.out (by kernel_rfl)) (fun _ _ _ h => h) (Or.inl ⟨by rfl, ?_⟩) ?_ ?_
                 rotate_left
                 ·intro w'
                  go_simp
                  with_reducible rfl
                 rotate_left
                 ·simp only [Act.put, qa, qb, qc, i64_w, i32_w]
                  rfl
                 refine take_ (i := 27) (N := some 57) (v := ?_) (a' := ?_) #[o,o,o,o,o,o,o,o,o,o,o,o,o,o,o,o,o,o,o,o,o,o,o,o,o,o,o,o,z,z,z,z,z,z,z,z,z,z,z,z] rfl rfl (take_ofW HT_.out HW_.out (by kernel_rfl)) (fun _ _ _ h => h) (Or.inl ⟨by rfl, ?_⟩) hHeld ?_ ?_
                 rotate_left
                 ·rintro w' ⟨s0, s1, s2, s3, s4, s5, s6, s7, s8, s9, s10, s11, s12, s13, s14, s15, s16, s17, s18, s19, s20, s21, s22, s23, s24, s25, s26, s27, s28, s29, s30, s31⟩
                  go_simp
                  with_reducible rfl
                 rotate_left
                 ·simp only [Act.put, qa, qb, qc, i64_w, i32_w]
                  rfl
                 refine pure_ (i := 28) (N := some 58) (v := ?_) (a' := ?_) #[o,o,o,o,o,o,o,o,o,o,o,o,o,o,o,o,o,o,o,o,o,o,o,o,o,o,o,o,o,z,z,z,z,z,z,z,z,z,z,z] rfl rfl (any_of HT_.out (by kernel_rfl)) (fun _ _ _ h => h) (Or.inl ⟨by rfl, ?_⟩) ?_ ?_
                 rotate_left
                 ·intro w'
                  go_simp
                  with_reducible rfl
                 rotate_left
                 ·simp only [Act.put, qa, qb, qc, i64_w, i32_w]
                  rfl
                 refine pure_ (i := 29) (N := some 59) (v := ?_) (a' := ?_) #[o,o,o,o,o,o,o,o,o,o,o,o,o,o,o,o,o,o,o,o,o,o,o,o,o,o,o,o,o,o,z,z,z,z,z,z,z,z,z,z] rfl rfl (any_of HT_.out (by kernel_rfl)) (fun _ _ _ h => h) (Or.inl ⟨by rfl, ?_⟩) ?_ ?_
                 rotate_left
                 ·intro w'
                  go_simp
                  with_reducible rfl
                 rotate_left
                 ·simp only [Act.put, qa, qb, qc, i64_w, i32_w]
                  rfl
                 refine pure_ (i := 30) (N := some 60) (v := ?_) (a' := ?_) #[o,o,o,o,o,o,o,o,o,o,o,o,o,o,o,o,o,o,o,o,o,o,o,o,o,o,o,o,o,o,o,z,z,z,z,z,z,z,z,z] rfl rfl (any_of HT_.out (by kernel_rfl)) (fun _ _ _ h => h) (Or.inl ⟨by rfl, ?_⟩) ?_ ?_
                 rotate_left
                 ·intro w'
                  go_simp
                  with_reducible rfl
                 rotate_left
                 ·simp only [Act.put, qa, qb, qc, i64_w, i32_w]
                  rfl
                 refine pure_ (i := 32) (N := some 62) (v := ?_) (a' := ?_) #[o,o,o,o,o,o,o,o,o,o,o,o,o,o,o,o,o,o,o,o,o,o,o,o,o,o,o,o,o,o,o,z,o,z,z,z,z,z,z,z] rfl rfl (any_of HT_.out (by kernel_rfl)) (fun _ _ _ h => h) (Or.inl ⟨by rfl, ?_⟩) ?_ ?_
                 rotate_left
                 ·intro w'
                  go_simp
                  with_reducible rfl
                 rotate_left
                 ·simp only [Act.put, qa, qb, qc, i64_w, i32_w]
                  rfl
                 refine pure_ (i := 33) (N := some 63) (v := ?_) (a' := ?_) #[o,o,o,o,o,o,o,o,o,o,o,o,o,o,o,o,o,o,o,o,o,o,o,o,o,o,o,o,o,o,o,z,o,o,z,z,z,z,z,z] rfl rfl (any_of HT_.out (by kernel_rfl)) (fun _ _ _ h => h) (Or.inl ⟨by rfl, ?_⟩) ?_ ?_
                 rotate_left
                 ·intro w'
                  go_simp
                  with_reducible rfl
                 rotate_left
                 ·simp only [Act.put, qa, qb, qc, i64_w, i32_w]
                  rfl
                 refine pure_ (i := 34) (N := some 64) (v := ?_) (a' := ?_) #[o,o,o,o,o,o,o,o,o,o,o,o,o,o,o,o,o,o,o,o,o,o,o,o,o,o,o,o,o,o,o,z,o,o,o,z,z,z,z,z] rfl rfl (any_of HT_.out (by kernel_rfl)) (fun _ _ _ h => h) (Or.inl ⟨by rfl, ?_⟩) ?_ ?_
                 rotate_left
                 ·intro w'
                  go_simp
                  with_reducible rfl
                 rotate_left
                 ·simp only [Act.put, qa, qb, qc, i64_w, i32_w]
                  rfl
                 refine pure_ (i := 35) (N := some 65) (v := ?_) (a' := ?_) #[o,o,o,o,o,o,o,o,o,o,o,o,o,o,o,o,o,o,o,o,o,o,o,o,o,o,o,o,o,o,o,z,o,o,o,o,z,z,z,z] rfl rfl (any_of HT_.out (by kernel_rfl)) (fun _ _ _ h => h) (Or.inl ⟨by rfl, ?_⟩) ?_ ?_
                 rotate_left
                 ·intro w'
                  go_simp
                  with_reducible rfl
                 rotate_left
                 ·simp only [Act.put, qa, qb, qc, i64_w, i32_w]
                  rfl
                 refine take_ (i := 31) (N := some 61) (v := ?_) (a' := ?_) #[o,o,o,o,o,o,o,o,o,o,o,o,o,o,o,o,o,o,o,o,o,o,o,o,o,o,o,o,o,o,o,o,o,o,o,o,z,z,z,z] rfl rfl (take_ofW HT_.out HW_.out (by kernel_rfl)) (fun _ _ _ h => h) (Or.inl ⟨by rfl, ?_⟩) hHeld ?_ ?_
                 rotate_left
                 ·rintro w' ⟨s0, s1, s2, s3, s4, s5, s6, s7, s8, s9, s10, s11, s12, s13, s14, s15, s16, s17, s18, s19, s20, s21, s22, s23, s24, s25, s26, s27, s28, s29, s30, s31⟩
                  go_simp
                  with_reducible rfl
                 rotate_left
                 ·simp only [Act.put, qa, qb, qc, i64_w, i32_w]
                  rfl
                 refine take_ (i := 36) (N := some 66) (v := ?_) (a' := ?_) #[o,o,o,o,o,o,o,o,o,o,o,o,o,o,o,o,o,o,o,o,o,o,o,o,o,o,o,o,o,o,o,o,o,o,o,o,o,z,z,z] rfl rfl (take_ofW HT_.out HW_.out (by kernel_rfl)) (fun _ _ _ h => h) (Or.inl ⟨by rfl, ?_⟩) hHeld ?_ ?_
                 rotate_left
                 ·rintro w' ⟨s0, s1, s2, s3, s4, s5, s6, s7, s8, s9, s10, s11, s12, s13, s14, s15, s16, s17, s18, s19, s20, s21, s22, s23, s24, s25, s26, s27, s28, s29, s30, s31⟩
                  go_simp
                  with_reducible rfl
                 rotate_left
                 ·simp only [Act.put, qa, qb, qc, i64_w, i32_w]
                  rfl
                 refine pure_ (i := 37) (N := some 67) (v := ?_) (a' := ?_) #[o,o,o,o,o,o,o,o,o,o,o,o,o,o,o,o,o,o,o,o,o,o,o,o,o,o,o,o,o,o,o,o,o,o,o,o,o,o,z,z] rfl rfl (any_of HT_.out (by kernel_rfl)) (fun _ _ _ h => h) (Or.inl ⟨by rfl, ?_⟩) ?_ ?_
                 rotate_left
                 ·intro w'
                  go_simp
                  with_reducible rfl
                 rotate_left
                 ·simp only [Act.put, qa, qb, qc, i64_w, i32_w]
                  rfl
                 refine pure_ (i := 38) (N := some 68) (v := ?_) (a' := ?_) #[o,o,o,o,o,o,o,o,o,o,o,o,o,o,o,o,o,o,o,o,o,o,o,o,o,o,o,o,o,o,o,o,o,o,o,o,o,o,o,z] rfl rfl (any_of HT_.out (by kernel_rfl)) (fun _ _ _ h => h) (Or.inl ⟨by rfl, ?_⟩) ?_ ?_
                 rotate_left
                 ·intro w'
                  go_simp
                  with_reducible rfl
                 rotate_left
                 ·simp only [Act.put, qa, qb, qc, i64_w, i32_w]
                  rfl
                 refine pure_ (i := 39) (N := some 69) (v := ?_) (a' := ?_) #[o,o,o,o,o,o,o,o,o,o,o,o,o,o,o,o,o,o,o,o,o,o,o,o,o,o,o,o,o,o,o,o,o,o,o,o,o,o,o,o] rfl rfl (any_of HT_.out (by kernel_rfl)) (fun _ _ _ h => h) (Or.inl ⟨by rfl, ?_⟩) ?_ ?_
                 rotate_left
                 ·intro w'
                  go_simp
                  with_reducible rfl
                 rotate_left
                 ·simp only [Act.put, qa, qb, qc, i64_w, i32_w]
                  rfl
                 refine done_ (done_of HT_.out (by kernel_rfl)) ?_
                 try go_wp2
                 go_roundg k2
                 case measure => have := HJ2.out; have := HK2.out; omega
                 case rel => exact ⟨(wrap64 (x25_2 + 1)), (by first | rfl | (simp; done) | (simp [*]; done)), H', ⟨by have := HJ2.out; have := HK2.out; omega⟩, ⟨sB HB.out⟩⟩
              ·replace c26 := Bool.eq_false_iff.mpr c26
               subst c26
               have H1 : (impl_IsShadowed.l0 k2 l0 a1 l0 (l0.length : Int) (wrap64 (x25_2 + 1))) = some r := by rw [if_neg (show ¬ (false = true) by decide)] at H; exact H
               clear H
               have H := H1
               clear H1
               have H' := Aside0.mk H
               clear H
               have p320 : 0 ≤ (x25_2 : Int) := of_decide_eq_true (by first | (with_reducible assumption) | assumption)
               have q320 : x25_2 < (l0.length : Int) := of_decide_eq_true (by first | (with_reducible assumption) | assumption)
               obtain ⟨ad320, e320, hx320_0, hx320_1, hx320_2, hx320_3, hx320_4, hx320_5, hx320_6, hx320_7⟩ := at_T84 HR0.out x25_2 p320 q320
               cases e320
               replace hx320_0 := hc_ HB hx320_0
               replace hx320_1 := hc_ HB hx320_1
               replace hx320_2 := hc_ HB hx320_2
               replace hx320_3 := hc_ HB hx320_3
               replace hx320_4 := hc_ HB hx320_4
               replace hx320_5 := hc_ HB hx320_5
               replace hx320_6 := hc_ HB hx320_6
               replace hx320_7 := hc_ HB hx320_7
               replace p320 := eq_true p320
               replace q320 := eq_true q320
               try go_wp2_with (first | ((with_reducible refine gate_dst (N := 6) rfl ?_); (try (refine gate_guard (by rfl) ?_; dsimp only)); refine box_event ?hg (N := 6) ?hd (cs := #[.int .i64 0, .int .i64 0, .int .i64 0, .int .i64 0, .int .i64 0, .int .i64 0, .int .i64 0, .int .i64 0]) (t := 84) ?hr ?_; (case hd => rfl); (case hg => rfl); (case hr => first | (go_simp; done) | (go_simp; rfl)); intro gb321 hg w50 hbox hb; have q_ := hbx_ (sB HB.out) hg hb; have n0_ := q_.1; have n1_ := am (hbox); have n2_ := q_.2; have n3_ := n2_; clear HB; have HB := n0_; have BK321 := n1_; have GW321 := n2_; have GE321 := n3_; clear n0_ n1_ n2_ n3_ hb hbox hg; obtain ⟨hcz51_0, hcz51_1, hcz51_2, hcz51_3, hcz51_4, hcz51_5, hcz51_6, hcz51_7, hfz51_0, hfz51_1, hfz51_2, hfz51_3, hfz51_4, hfz51_5, hfz51_6, hfz51_7⟩ := blk8 BK321.out))
               have n0_ : Aside0 (((((((((w50.setCell ⟨gb321, 0, none⟩ (.int .i64 ((rd_T84 l0 x25_2).f0))).setCell ⟨gb321, 1, none⟩ (.int .i64 ((rd_T84 l0 x25_2).f1))).setCell ⟨gb321, 2, none⟩ (.int .i64 ((rd_T84 l0 x25_2).f2.f0))).setCell ⟨gb321, 3, none⟩ (.int .i64 ((rd_T84 l0 x25_2).f2.f1))).setCell ⟨gb321, 4, none⟩ (.int .i64 ((rd_T84 l0 x25_2).f3))).setCell ⟨gb321, 5, none⟩ (.int .i64 ((rd_T84 l0 x25_2).f4))).setCell ⟨gb321, 6, none⟩ (.int .i64 ((rd_T84 l0 x25_2).f5.f0))).setCell ⟨gb321, 7, none⟩ (.int .i64 ((rd_T84 l0 x25_2).f5.f1))).heap[gb321]? = some (.cells #[.int .i64 ((rd_T84 l0 x25_2).f0), .int .i64 ((rd_T84 l0 x25_2).f1), .int .i64 ((rd_T84 l0 x25_2).f2.f0), .int .i64 ((rd_T84 l0 x25_2).f2.f1), .int .i64 ((rd_T84 l0 x25_2).f3), .int .i64 ((rd_T84 l0 x25_2).f4), .int .i64 ((rd_T84 l0 x25_2).f5.f0), .int .i64 ((rd_T84 l0 x25_2).f5.f1)] 84 (0, 0))) := ⟨by refine bB ?_; refine blk_put (cs := #[.int .i64 ((rd_T84 l0 x25_2).f0), .int .i64 ((rd_T84 l0 x25_2).f1), .int .i64 ((rd_T84 l0 x25_2).f2.f0), .int .i64 ((rd_T84 l0 x25_2).f2.f1), .int .i64 ((rd_T84 l0 x25_2).f3), .int .i64 ((rd_T84 l0 x25_2).f4), .int .i64 ((rd_T84 l0 x25_2).f5.f0), .int .i64 0]) ?_ 7 _ rfl; refine bB ?_; refine blk_put (cs := #[.int .i64 ((rd_T84 l0 x25_2).f0), .int .i64 ((rd_T84 l0 x25_2).f1), .int .i64 ((rd_T84 l0 x25_2).f2.f0), .int .i64 ((rd_T84 l0 x25_2).f2.f1), .int .i64 ((rd_T84 l0 x25_2).f3), .int .i64 ((rd_T84 l0 x25_2).f4), .int .i64 0, .int .i64 0]) ?_ 6 _ rfl; refine bB ?_; refine blk_put (cs := #[.int .i64 ((rd_T84 l0 x25_2).f0), .int .i64 ((rd_T84 l0 x25_2).f1), .int .i64 ((rd_T84 l0 x25_2).f2.f0), .int .i64 ((rd_T84 l0 x25_2).f2.f1), .int .i64 ((rd_T84 l0 x25_2).f3), .int .i64 0, .int .i64 0, .int .i64 0]) ?_ 5 _ rfl; refine bB ?_; refine blk_put (cs := #[.int .i64 ((rd_T84 l0 x25_2).f0), .int .i64 ((rd_T84 l0 x25_2).f1), .int .i64 ((rd_T84 l0 x25_2).f2.f0), .int .i64 ((rd_T84 l0 x25_2).f2.f1), .int .i64 0, .int .i64 0, .int .i64 0, .int .i64 0]) ?_ 4 _ rfl; refine bB ?_; refine blk_put (cs := #[.int .i64 ((rd_T84 l0 x25_2).f0), .int .i64 ((rd_T84 l0 x25_2).f1), .int .i64 ((rd_T84 l0 x25_2).f2.f0), .int .i64 0, .int .i64 0, .int .i64 0, .int .i64 0, .int .i64 0]) ?_ 3 _ rfl; refine bB ?_; refine blk_put (cs := #[.int .i64 ((rd_T84 l0 x25_2).f0), .int .i64 ((rd_T84 l0 x25_2).f1), .int .i64 0, .int .i64 0, .int .i64 0, .int .i64 0, .int .i64 0, .int .i64 0]) ?_ 2 _ rfl; refine bB ?_; refine blk_put (cs := #[.int .i64 ((rd_T84 l0 x25_2).f0), .int .i64 0, .int .i64 0, .int .i64 0, .int .i64 0, .int .i64 0, .int .i64 0, .int .i64 0]) ?_ 1 _ rfl; refine bB ?_; refine blk_put (cs := #[.int .i64 0, .int .i64 0, .int .i64 0, .int .i64 0, .int .i64 0, .int .i64 0, .int .i64 0, .int .i64 0]) ?_ 0 _ rfl; refine bB ?_; exact BK321.out⟩
               have n1_ : Aside0 (Below w.heap.size w ((((((((w50.setCell ⟨gb321, 0, none⟩ (.int .i64 ((rd_T84 l0 x25_2).f0))).setCell ⟨gb321, 1, none⟩ (.int .i64 ((rd_T84 l0 x25_2).f1))).setCell ⟨gb321, 2, none⟩ (.int .i64 ((rd_T84 l0 x25_2).f2.f0))).setCell ⟨gb321, 3, none⟩ (.int .i64 ((rd_T84 l0 x25_2).f2.f1))).setCell ⟨gb321, 4, none⟩ (.int .i64 ((rd_T84 l0 x25_2).f3))).setCell ⟨gb321, 5, none⟩ (.int .i64 ((rd_T84 l0 x25_2).f4))).setCell ⟨gb321, 6, none⟩ (.int .i64 ((rd_T84 l0 x25_2).f5.f0))).setCell ⟨gb321, 7, none⟩ (.int .i64 ((rd_T84 l0 x25_2).f5.f1)))) := ⟨sB HB.out⟩
               (try clear BK321)
               (try clear HB)
               generalize ((((((((w50.setCell ⟨gb321, 0, none⟩ (.int .i64 ((rd_T84 l0 x25_2).f0))).setCell ⟨gb321, 1, none⟩ (.int .i64 ((rd_T84 l0 x25_2).f1))).setCell ⟨gb321, 2, none⟩ (.int .i64 ((rd_T84 l0 x25_2).f2.f0))).setCell ⟨gb321, 3, none⟩ (.int .i64 ((rd_T84 l0 x25_2).f2.f1))).setCell ⟨gb321, 4, none⟩ (.int .i64 ((rd_T84 l0 x25_2).f3))).setCell ⟨gb321, 5, none⟩ (.int .i64 ((rd_T84 l0 x25_2).f4))).setCell ⟨gb321, 6, none⟩ (.int .i64 ((rd_T84 l0 x25_2).f5.f0))).setCell ⟨gb321, 7, none⟩ (.int .i64 ((rd_T84 l0 x25_2).f5.f1))) = w52 at n0_ n1_ ⊢
               have BK321 := n0_
               have HB := n1_
               clear n0_ n1_
               replace BK321 := am (blk_drew BK321.out)
               replace HB := am (below_drew1 HB.out)
               have p323 : 0 ≤ (a1 : Int) := of_decide_eq_true (by first | (with_reducible assumption) | assumption)
               have q323 : a1 < (l0.length : Int) := of_decide_eq_true (by first | (with_reducible assumption) | assumption)
               obtain ⟨ad323, e323, hx323_0, hx323_1, hx323_2, hx323_3, hx323_4, hx323_5, hx323_6, hx323_7⟩ := at_T84 HR0.out a1 p323 q323
               have hw323_7 := hx323_7
               have hw323_6 := hx323_6
               have hw323_5 := hx323_5
               have hw323_4 := hx323_4
               have hw323_3 := hx323_3
               have hw323_2 := hx323_2
               have hw323_1 := hx323_1
               have hw323_0 := hx323_0
               obtain rfl : ad320 = ad323 := (by injection e323)
               replace hx323_0 := hc_ HB hx323_0
               replace hx323_1 := hc_ HB hx323_1
               replace hx323_2 := hc_ HB hx323_2
               replace hx323_3 := hc_ HB hx323_3
               replace hx323_4 := hc_ HB hx323_4
               replace hx323_5 := hc_ HB hx323_5
               replace hx323_6 := hc_ HB hx323_6
               replace hx323_7 := hc_ HB hx323_7
               replace p323 := eq_true p323
               replace q323 := eq_true q323
               have p325 : 0 ≤ (a1 : Int) := of_decide_eq_true (by first | (with_reducible assumption) | assumption)
               have q325 : a1 < (l0.length : Int) := of_decide_eq_true (by first | (with_reducible assumption) | assumption)
               obtain ⟨ad325, e325, hx325_0, hx325_1, hx325_2, hx325_3, hx325_4, hx325_5, hx325_6, hx325_7⟩ := at_T84 HR0.out a1 p325 q325
               have hw325_7 := hx325_7
               have hw325_6 := hx325_6
               have hw325_5 := hx325_5
               have hw325_4 := hx325_4
               have hw325_3 := hx325_3
               have hw325_2 := hx325_2
               have hw325_1 := hx325_1
               have hw325_0 := hx325_0
               obtain rfl : ad320 = ad325 := (by injection e325)
               replace hx325_0 := hc_ HB hx325_0
               replace hx325_1 := hc_ HB hx325_1
               replace hx325_2 := hc_ HB hx325_2
               replace hx325_3 := hc_ HB hx325_3
               replace hx325_4 := hc_ HB hx325_4
               replace hx325_5 := hc_ HB hx325_5
               replace hx325_6 := hc_ HB hx325_6
               replace hx325_7 := hc_ HB hx325_7
               replace p325 := eq_true p325
               replace q325 := eq_true q325
               refine start_ (n := 40) (S := fun w' => w'.cell? ⟨gb321, 0, none⟩ = some (.int .i64 ((rd_T84 l0 x25_2).f0)) ∧ w'.cell? ⟨gb321, 1, none⟩ = some (.int .i64 ((rd_T84 l0 x25_2).f1)) ∧ w'.cell? ⟨gb321, 2, none⟩ = some (.int .i64 ((rd_T84 l0 x25_2).f2.f0)) ∧ w'.cell? ⟨gb321, 3, none⟩ = some (.int .i64 ((rd_T84 l0 x25_2).f2.f1)) ∧ w'.cell? ⟨gb321, 4, none⟩ = some (.int .i64 ((rd_T84 l0 x25_2).f3)) ∧ w'.cell? ⟨gb321, 5, none⟩ = some (.int .i64 ((rd_T84 l0 x25_2).f4)) ∧ w'.cell? ⟨gb321, 6, none⟩ = some (.int .i64 ((rd_T84 l0 x25_2).f5.f0)) ∧ w'.cell? ⟨gb321, 7, none⟩ = some (.int .i64 ((rd_T84 l0 x25_2).f5.f1)) ∧ w'.cell? (ad320.add ((a1).toNat * 8)) = some (.int .i64 ((rd_T84 l0 a1).f0)) ∧ w'.cell? ⟨(ad320.add ((a1).toNat * 8)).block, (ad320.add ((a1).toNat * 8)).off + 1, none⟩ = some (.int .i64 ((rd_T84 l0 a1).f1)) ∧ w'.cell? ⟨(ad320.add ((a1).toNat * 8)).block, (ad320.add ((a1).toNat * 8)).off + 2, none⟩ = some (.int .i64 ((rd_T84 l0 a1).f2.f0)) ∧ w'.cell? ⟨(ad320.add ((a1).toNat * 8)).block, (ad320.add ((a1).toNat * 8)).off + 3, none⟩ = some (.int .i64 ((rd_T84 l0 a1).f2.f1)) ∧ w'.cell? ⟨(ad320.add ((a1).toNat * 8)).block, (ad320.add ((a1).toNat * 8)).off + 4, none⟩ = some (.int .i64 ((rd_T84 l0 a1).f3)) ∧ w'.cell? ⟨(ad320.add ((a1).toNat * 8)).block, (ad320.add ((a1).toNat * 8)).off + 5, none⟩ = some (.int .i64 ((rd_T84 l0 a1).f4)) ∧ w'.cell? ⟨(ad320.add ((a1).toNat * 8)).block, (ad320.add ((a1).toNat * 8)).off + 6, none⟩ = some (.int .i64 ((rd_T84 l0 a1).f5.f0)) ∧ w'.cell? ⟨(ad320.add ((a1).toNat * 8)).block, (ad320.add ((a1).toNat * 8)).off + 7, none⟩ = some (.int .i64 ((rd_T84 l0 a1).f5.f1)) ∧ w'.cell? (ad320.add ((a1).toNat * 8)) = some (.int .i64 ((rd_T84 l0 a1).f0)) ∧ w'.cell? ⟨(ad320.add ((a1).toNat * 8)).block, (ad320.add ((a1).toNat * 8)).off + 1, none⟩ = some (.int .i64 ((rd_T84 l0 a1).f1)) ∧ w'.cell? ⟨(ad320.add ((a1).toNat * 8)).block, (ad320.add ((a1).toNat * 8)).off + 2, none⟩ = some (.int .i64 ((rd_T84 l0 a1).f2.f0)) ∧ w'.cell? ⟨(ad320.add ((a1).toNat * 8)).block, (ad320.add ((a1).toNat * 8)).off + 3, none⟩ = some (.int .i64 ((rd_T84 l0 a1).f2.f1)) ∧ w'.cell? ⟨(ad320.add ((a1).toNat * 8)).block, (ad320.add ((a1).toNat * 8)).off + 4, none⟩ = some (.int .i64 ((rd_T84 l0 a1).f3)) ∧ w'.cell? ⟨(ad320.add ((a1).toNat * 8)).block, (ad320.add ((a1).toNat * 8)).off + 5, none⟩ = some (.int .i64 ((rd_T84 l0 a1).f4)) ∧ w'.cell? ⟨(ad320.add ((a1).toNat * 8)).block, (ad320.add ((a1).toNat * 8)).off + 6, none⟩ = some (.int .i64 ((rd_T84 l0 a1).f5.f0)) ∧ w'.cell? ⟨(ad320.add ((a1).toNat * 8)).block, (ad320.add ((a1).toNat * 8)).off + 7, none⟩ = some (.int .i64 ((rd_T84 l0 a1).f5.f1))) (ds := []) #[z,z,z,z,z,z,z,z,z,z,z,z,z,z,z,z,z,z,z,z,z,z,z,z,z,z,z,z,z,z,z,z,z,z,z,z,z,z,z,z] (by kernel_rfl) rfl rfl ⟨(blk_cell BK321.out 0).trans rfl, (blk_cell BK321.out 1).trans rfl, (blk_cell BK321.out 2).trans rfl, (blk_cell BK321.out 3).trans rfl, (blk_cell BK321.out 4).trans rfl, (blk_cell BK321.out 5).trans rfl, (blk_cell BK321.out 6).trans rfl, (blk_cell BK321.out 7).trans rfl, (hc_ HB hw323_0), (hc_ HB hw323_1), (hc_ HB hw323_2), (hc_ HB hw323_3), (hc_ HB hw323_4), (hc_ HB hw323_5), (hc_ HB hw323_6), (hc_ HB hw323_7), (hc_ HB hw325_0), (hc_ HB hw325_1), (hc_ HB hw325_2), (hc_ HB hw325_3), (hc_ HB hw325_4), (hc_ HB hw325_5), (hc_ HB hw325_6), (hc_ HB hw325_7)⟩ (fun hHeld => ?_); refine with_tabW impl_IsShadowed.tab6 impl_IsShadowed.bits6 (fun HT_ HW_ => ?_)
               generalize w52.drew = w53 at BK321 HB hx323_0 hx323_1 hx323_2 hx323_3 hx323_4 hx323_5 hx323_6 hx323_7 hx325_0 hx325_1 hx325_2 hx325_3 hx325_4 hx325_5 hx325_6 hx325_7 hHeld ⊢
               refine pure_ (i := 0) (N := some 30) (v := ?_) (a' := ?_) #[o,z,z,z,z,z,z,z,z,z,z,z,z,z,z,z,z,z,z,z,z,z,z,z,z,z,z,z,z,z,z,z,z,z,z,z,z,z,z,z] rfl rfl (any_of HT_.out (by kernel_rfl)) (fun _ _ _ h => h) (Or.inl ⟨by rfl, ?_⟩) ?_ ?_
               rotate_left
               ·intro w'
                go_simp
                with_reducible rfl
               rotate_left
               ·simp only [Act.put, qa, qb, qc, i64_w, i32_w]
                rfl
               refine pure_ (i := 1) (N := some 31) (v := ?_) (a' := ?_) #[o,o,z,z,z,z,z,z,z,z,z,z,z,z,z,z,z,z,z,z,z,z,z,z,z,z,z,z,z,z,z,z,z,z,z,z,z,z,z,z] rfl rfl (any_of HT_.out (by kernel_rfl)) (fun _ _ _ h => h) (Or.inl ⟨by rfl, ?_⟩) ?_ ?_
               rotate_left
               ·intro w'
                go_simp
                with_reducible rfl
               rotate_left
               ·simp only [Act.put, qa, qb, qc, i64_w, i32_w]
                rfl
               refine pure_ (i := 2) (N := some 32) (v := ?_) (a' := ?_) #[o,o,o,z,z,z,z,z,z,z,z,z,z,z,z,z,z,z,z,z,z,z,z,z,z,z,z,z,z,z,z,z,z,z,z,z,z,z,z,z] rfl rfl (any_of HT_.out (by kernel_rfl)) (fun _ _ _ h => h) (Or.inl ⟨by rfl, ?_⟩) ?_ ?_
               rotate_left
               ·intro w'
                go_simp
                with_reducible rfl
               rotate_left
               ·simp only [Act.put, qa, qb, qc, i64_w, i32_w]
                rfl
               refine pure_ (i := 3) (N := some 33) (v := ?_) (a' := ?_) #[o,o,o,o,z,z,z,z,z,z,z,z,z,z,z,z,z,z,z,z,z,z,z,z,z,z,z,z,z,z,z,z,z,z,z,z,z,z,z,z] rfl rfl (any_of HT_.out (by kernel_rfl)) (fun _ _ _ h => h) (Or.inl ⟨by rfl, ?_⟩) ?_ ?_
               rotate_left
               ·intro w'
                go_simp
                with_reducible rfl
               rotate_left
               ·simp only [Act.put, qa, qb, qc, i64_w, i32_w]
                rfl
               refine take_ (i := 4) (N := some 34) (v := ?_) (a' := ?_) #[o,o,o,o,o,z,z,z,z,z,z,z,z,z,z,z,z,z,z,z,z,z,z,z,z,z,z,z,z,z,z,z,z,z,z,z,z,z,z,z] rfl rfl (take_ofW HT_.out HW_.out (by kernel_rfl)) (fun _ _ _ h => h) (Or.inl ⟨by rfl, ?_⟩) hHeld ?_ ?_
               rotate_left
               ·rintro w' ⟨s0, s1, s2, s3, s4, s5, s6, s7, s8, s9, s10, s11, s12, s13, s14, s15, s16, s17, s18, s19, s20, s21, s22, s23⟩
                go_simp
                with_reducible rfl
               rotate_left
               ·simp only [Act.put, qa, qb, qc, i64_w, i32_w]
                rfl
               refine one_ (i := 5) (N := some 35) #[o,o,o,o,o,o,z,z,z,z,z,z,z,z,z,z,z,z,z,z,z,z,z,z,z,z,z,z,z,z,z,z,z,z,z,z,z,z,z,z] rfl rfl (one_of HT_.out (by kernel_rfl)) (by decide) (fun K hK => ?_)
               refine goes_ Try.func56 (by kernel_rfl) rfl #[.agg #[.int .i64 ((rd_T84 l0 x25_2).f0), .int .i64 ((rd_T84 l0 x25_2).f1), .int .i64 ((rd_T84 l0 x25_2).f2.f0), .int .i64 ((rd_T84 l0 x25_2).f2.f1), .int .i64 ((rd_T84 l0 x25_2).f3), .int .i64 ((rd_T84 l0 x25_2).f4), .int .i64 ((rd_T84 l0 x25_2).f5.f0), .int .i64 ((rd_T84 l0 x25_2).f5.f1)]] (by rfl) rfl rfl (by (try simp only [List.map_toArray, List.map_cons, List.map_nil]); first | done | rfl | (simp only [List.length_drop, List.length_take]; rfl)) ?_
               with_reducible refine (impl_IsRule.calls k2 ((rd_T84 l0 x25_2).f0) ((rd_T84 l0 x25_2).f1) ((rd_T84 l0 x25_2).f2.f0) ((rd_T84 l0 x25_2).f2.f1) ((rd_T84 l0 x25_2).f3) ((rd_T84 l0 x25_2).f4) ((rd_T84 l0 x25_2).f5.f0) ((rd_T84 l0 x25_2).f5.f1) true _ A19.out).mono ?_
               rintro e w54 ⟨rfl, hb⟩
               refine ⟨_, rfl, ?_⟩
               replace BK321 := am (blk_below (bB BK321.out) hb)
               replace HB := am (below_step (sB HB.out) hb)
               (try clear hb)
               (try clear hb2)
               (try clear hk)
               (try clear hi)
               refine hK.out _ _ ⟨(blk_cell BK321.out 0).trans rfl, (blk_cell BK321.out 1).trans rfl, (blk_cell BK321.out 2).trans rfl, (blk_cell BK321.out 3).trans rfl, (blk_cell BK321.out 4).trans rfl, (blk_cell BK321.out 5).trans rfl, (blk_cell BK321.out 6).trans rfl, (blk_cell BK321.out 7).trans rfl, (hc_ HB hw323_0), (hc_ HB hw323_1), (hc_ HB hw323_2), (hc_ HB hw323_3), (hc_ HB hw323_4), (hc_ HB hw323_5), (hc_ HB hw323_6), (hc_ HB hw323_7), (hc_ HB hw325_0), (hc_ HB hw325_1), (hc_ HB hw325_2), (hc_ HB hw325_3), (hc_ HB hw325_4), (hc_ HB hw325_5), (hc_ HB hw325_6), (hc_ HB hw325_7)⟩ (fun hHeld => ?_)
               clear hK K
               refine norm_ (a' := ?_) ?_ ?_
               rotate_left
               ·show Act.put _ (some 35) _ = _
                simp only [Act.put, qa, qb, qc, i64_w, i32_w]
                rfl
               refine pure_ (i := 6) (N := some 36) (v := ?_) (a' := ?_) #[o,o,o,o,o,o,o,z,z,z,z,z,z,z,z,z,z,z,z,z,z,z,z,z,z,z,z,z,z,z,z,z,z,z,z,z,z,z,z,z] rfl rfl (any_of HT_.out (by kernel_rfl)) (fun _ _ _ h => h) (Or.inl ⟨by rfl, ?_⟩) ?_ ?_
               rotate_left
               ·intro w'
                go_simp
                with_reducible rfl
               rotate_left
               ·simp only [Act.put, qa, qb, qc, i64_w, i32_w]
                rfl
               refine pure_ (i := 7) (N := some 37) (v := ?_) (a' := ?_) #[o,o,o,o,o,o,o,o,z,z,z,z,z,z,z,z,z,z,z,z,z,z,z,z,z,z,z,z,z,z,z,z,z,z,z,z,z,z,z,z] rfl rfl (any_of HT_.out (by kernel_rfl)) (fun _ _ _ h => h) (Or.inl ⟨by rfl, ?_⟩) ?_ ?_
               rotate_left
               ·intro w'
                go_simp
                with_reducible rfl
               rotate_left
               ·simp only [Act.put, qa, qb, qc, i64_w, i32_w]
                rfl
               refine pure_ (i := 9) (N := some 39) (v := ?_) (a' := ?_) #[o,o,o,o,o,o,o,o,z,o,z,z,z,z,z,z,z,z,z,z,z,z,z,z,z,z,z,z,z,z,z,z,z,z,z,z,z,z,z,z] rfl rfl (any_of HT_.out (by kernel_rfl)) (fun _ _ _ h => h) (Or.inl ⟨by rfl, ?_⟩) ?_ ?_
               rotate_left
               ·intro w'
                go_simp
                with_reducible rfl
               rotate_left
               ·simp only [Act.put, qa, qb, qc, i64_w, i32_w]
                rfl
               refine pure_ (i := 10) (N := some 40) (v := ?_) (a' := ?_) #[o,o,o,o,o,o,o,o,z,o,o,z,z,z,z,z,z,z,z,z,z,z,z,z,z,z,z,z,z,z,z,z,z,z,z,z,z,z,z,z] rfl rfl (any_of HT_.out (by kernel_rfl)) (fun _ _ _ h => h) (Or.inl ⟨by rfl, ?_⟩) ?_ ?_
               rotate_left
               ·intro w'
                go_simp
                with_reducible rfl
               rotate_left
               ·simp only [Act.put, qa, qb, qc, i64_w, i32_w]
                rfl
               refine pure_ (i := 11) (N := some 41) (v := ?_) (a' := ?_) #[o,o,o,o,o,o,o,o,z,o,o,o,z,z,z,z,z,z,z,z,z,z,z,z,z,z,z,z,z,z,z,z,z,z,z,z,z,z,z,z] rfl rfl (any_of HT_.out (by kernel_rfl)) (fun _ _ _ h => h) (Or.inl ⟨by rfl, ?_⟩) ?_ ?_
               rotate_left
               ·intro w'
                go_simp
                with_reducible rfl
               rotate_left
               ·simp only [Act.put, qa, qb, qc, i64_w, i32_w]
                rfl
               refine take_ (i := 8) (N := some 38) (v := ?_) (a' := ?_) #[o,o,o,o,o,o,o,o,o,o,o,o,z,z,z,z,z,z,z,z,z,z,z,z,z,z,z,z,z,z,z,z,z,z,z,z,z,z,z,z] rfl rfl (take_ofW HT_.out HW_.out (by kernel_rfl)) (fun _ _ _ h => h) (Or.inl ⟨by rfl, ?_⟩) hHeld ?_ ?_
               rotate_left
               ·rintro w' ⟨s0, s1, s2, s3, s4, s5, s6, s7, s8, s9, s10, s11, s12, s13, s14, s15, s16, s17, s18, s19, s20, s21, s22, s23⟩
                go_simp
                with_reducible rfl
               rotate_left
               ·simp only [Act.put, qa, qb, qc, i64_w, i32_w]
                rfl
               refine take_ (i := 12) (N := some 42) (v := ?_) (a' := ?_) #[o,o,o,o,o,o,o,o,o,o,o,o,o,z,z,z,z,z,z,z,z,z,z,z,z,z,z,z,z,z,z,z,z,z,z,z,z,z,z,z] rfl rfl (take_ofW HT_.out HW_.out (by kernel_rfl)) (fun _ _ _ h => h) (Or.inl ⟨by rfl, ?_⟩) hHeld ?_ ?_
               rotate_left
               ·rintro w' ⟨s0, s1, s2, s3, s4, s5, s6, s7, s8, s9, s10, s11, s12, s13, s14, s15, s16, s17, s18, s19, s20, s21, s22, s23⟩
                go_simp
                with_reducible rfl
               rotate_left
               ·simp only [Act.put, qa, qb, qc, i64_w, i32_w]
                rfl
               refine one_ (i := 13) (N := some 43) #[o,o,o,o,o,o,o,o,o,o,o,o,o,o,z,z,z,z,z,z,z,z,z,z,z,z,z,z,z,z,z,z,z,z,z,z,z,z,z,z] rfl rfl (one_of HT_.out (by kernel_rfl)) (by decide) (fun K hK => ?_)
               refine goes_ Try.func53 (by kernel_rfl) rfl #[.agg #[.int .i64 ((rd_T84 l0 x25_2).f0), .int .i64 ((rd_T84 l0 x25_2).f1), .int .i64 ((rd_T84 l0 x25_2).f2.f0), .int .i64 ((rd_T84 l0 x25_2).f2.f1), .int .i64 ((rd_T84 l0 x25_2).f3), .int .i64 ((rd_T84 l0 x25_2).f4), .int .i64 ((rd_T84 l0 x25_2).f5.f0), .int .i64 ((rd_T84 l0 x25_2).f5.f1)], .agg #[.int .i64 ((rd_T84 l0 a1).f0), .int .i64 ((rd_T84 l0 a1).f1), .int .i64 ((rd_T84 l0 a1).f2.f0), .int .i64 ((rd_T84 l0 a1).f2.f1), .int .i64 ((rd_T84 l0 a1).f3), .int .i64 ((rd_T84 l0 a1).f4), .int .i64 ((rd_T84 l0 a1).f5.f0), .int .i64 ((rd_T84 l0 a1).f5.f1)]] (by rfl) rfl rfl (by (try simp only [List.map_toArray, List.map_cons, List.map_nil]); first | done | rfl | (simp only [List.length_drop, List.length_take]; rfl)) ?_
               with_reducible refine (impl_IsBefore.calls k2 ((rd_T84 l0 x25_2).f0) ((rd_T84 l0 x25_2).f1) ((rd_T84 l0 x25_2).f2.f0) ((rd_T84 l0 x25_2).f2.f1) ((rd_T84 l0 x25_2).f3) ((rd_T84 l0 x25_2).f4) ((rd_T84 l0 x25_2).f5.f0) ((rd_T84 l0 x25_2).f5.f1) ((rd_T84 l0 a1).f0) ((rd_T84 l0 a1).f1) ((rd_T84 l0 a1).f2.f0) ((rd_T84 l0 a1).f2.f1) ((rd_T84 l0 a1).f3) ((rd_T84 l0 a1).f4) ((rd_T84 l0 a1).f5.f0) ((rd_T84 l0 a1).f5.f1) true _ A23.out).mono ?_
               rintro e w55 ⟨rfl, hb⟩
               refine ⟨_, rfl, ?_⟩
               replace BK321 := am (blk_below (bB BK321.out) hb)
               replace HB := am (below_step (sB HB.out) hb)
               (try clear hb)
               (try clear hb2)
               (try clear hk)
               (try clear hi)
               refine hK.out _ _ ⟨(blk_cell BK321.out 0).trans rfl, (blk_cell BK321.out 1).trans rfl, (blk_cell BK321.out 2).trans rfl, (blk_cell BK321.out 3).trans rfl, (blk_cell BK321.out 4).trans rfl, (blk_cell BK321.out 5).trans rfl, (blk_cell BK321.out 6).trans rfl, (blk_cell BK321.out 7).trans rfl, (hc_ HB hw323_0), (hc_ HB hw323_1), (hc_ HB hw323_2), (hc_ HB hw323_3), (hc_ HB hw323_4), (hc_ HB hw323_5), (hc_ HB hw323_6), (hc_ HB hw323_7), (hc_ HB hw325_0), (hc_ HB hw325_1), (hc_ HB hw325_2), (hc_ HB hw325_3), (hc_ HB hw325_4), (hc_ HB hw325_5), (hc_ HB hw325_6), (hc_ HB hw325_7)⟩ (fun hHeld => ?_)
               clear hK K
               refine norm_ (a' := ?_) ?_ ?_
               rotate_left
               ·show Act.put _ (some 43) _ = _
                simp only [Act.put, qa, qb, qc, i64_w, i32_w]
                rfl
               refine pure_ (i := 14) (N := some 44) (v := ?_) (a' := ?_) #[o,o,o,o,o,o,o,o,o,o,o,o,o,o,o,z,z,z,z,z,z,z,z,z,z,z,z,z,z,z,z,z,z,z,z,z,z,z,z,z] rfl rfl (any_of HT_.out (by kernel_rfl)) (fun _ _ _ h => h) (Or.inl ⟨by rfl, ?_⟩) ?_ ?_
               rotate_left
               ·intro w'
                go_simp
                with_reducible rfl
               rotate_left
               ·simp only [Act.put, qa, qb, qc, i64_w, i32_w]
                rfl
               refine pure_ (i := 15) (N := some 45) (v := ?_) (a' := ?_) #[o,o,o,o,o,o,o,o,o,o,o,o,o,o,o,o,z,z,z,z,z,z,z,z,z,z,z,z,z,z,z,z,z,z,z,z,z,z,z,z] rfl rfl (any_of HT_.out (by kernel_rfl)) (fun _ _ _ h => h) (Or.inl ⟨by rfl, ?_⟩) ?_ ?_
               rotate_left
               ·intro w'
                go_simp
                with_reducible rfl
               rotate_left
               ·simp only [Act.put, qa, qb, qc, i64_w, i32_w]
                rfl
               refine pure_ (i := 16) (N := some 46) (v := ?_) (a' := ?_) #[o,o,o,o,o,o,o,o,o,o,o,o,o,o,o,o,o,z,z,z,z,z,z,z,z,z,z,z,z,z,z,z,z,z,z,z,z,z,z,z] rfl rfl (any_of HT_.out (by kernel_rfl)) (fun _ _ _ h => h) (Or.inl ⟨by rfl, ?_⟩) ?_ ?_
               rotate_left
               ·intro w'
                go_simp
                with_reducible rfl
               rotate_left
               ·simp only [Act.put, qa, qb, qc, i64_w, i32_w]
                rfl
               refine pure_ (i := 17) (N := some 47) (v := ?_) (a' := ?_) #[o,o,o,o,o,o,o,o,o,o,o,o,o,o,o,o,o,o,z,z,z,z,z,z,z,z,z,z,z,z,z,z,z,z,z,z,z,z,z,z] rfl rfl (any_of HT_.out (by kernel_rfl)) (fun _ _ _ h => h) (Or.inl ⟨by rfl, ?_⟩) ?_ ?_
               rotate_left
               ·intro w'
                go_simp
                with_reducible rfl
               rotate_left
               ·simp only [Act.put, qa, qb, qc, i64_w, i32_w]
                rfl
               refine pure_ (i := 18) (N := some 48) (v := ?_) (a' := ?_) #[o,o,o,o,o,o,o,o,o,o,o,o,o,o,o,o,o,o,o,z,z,z,z,z,z,z,z,z,z,z,z,z,z,z,z,z,z,z,z,z] rfl rfl (any_of HT_.out (by kernel_rfl)) (fun _ _ _ h => h) (Or.inl ⟨by rfl, ?_⟩) ?_ ?_
               rotate_left
               ·intro w'
                go_simp
                with_reducible rfl
               rotate_left
               ·simp only [Act.put, qa, qb, qc, i64_w, i32_w]
                rfl
               refine pure_ (i := 19) (N := some 49) (v := ?_) (a' := ?_) #[o,o,o,o,o,o,o,o,o,o,o,o,o,o,o,o,o,o,o,o,z,z,z,z,z,z,z,z,z,z,z,z,z,z,z,z,z,z,z,z] rfl rfl (any_of HT_.out (by kernel_rfl)) (fun _ _ _ h => h) (Or.inl ⟨by rfl, ?_⟩) ?_ ?_
               rotate_left
               ·intro w'
                go_simp
                with_reducible rfl
               rotate_left
               ·simp only [Act.put, qa, qb, qc, i64_w, i32_w]
                rfl
               refine pure_ (i := 21) (N := some 51) (v := ?_) (a' := ?_) #[o,o,o,o,o,o,o,o,o,o,o,o,o,o,o,o,o,o,o,o,z,o,z,z,z,z,z,z,z,z,z,z,z,z,z,z,z,z,z,z] rfl rfl (any_of HT_.out (by kernel_rfl)) (fun _ _ _ h => h) (Or.inl ⟨by rfl, ?_⟩) ?_ ?_
               rotate_left
               ·intro w'
                go_simp
                with_reducible rfl
               rotate_left
               ·simp only [Act.put, qa, qb, qc, i64_w, i32_w]
                rfl
               refine take_ (i := 20) (N := some 50) (v := ?_) (a' := ?_) #[o,o,o,o,o,o,o,o,o,o,o,o,o,o,o,o,o,o,o,o,o,o,z,z,z,z,z,z,z,z,z,z,z,z,z,z,z,z,z,z] rfl rfl (take_ofW HT_.out HW_.out (by kernel_rfl)) (fun _ _ _ h => h) (Or.inl ⟨by rfl, ?_⟩) hHeld ?_ ?_
               rotate_left
               ·rintro w' ⟨s0, s1, s2, s3, s4, s5, s6, s7, s8, s9, s10, s11, s12, s13, s14, s15, s16, s17, s18, s19, s20, s21, s22, s23⟩
                go_simp
                with_reducible rfl
               rotate_left
               ·simp only [Act.put, qa, qb, qc, i64_w, i32_w]
                rfl
               refine take_ (i := 22) (N := some 52) (v := ?_) (a' := ?_) #[o,o,o,o,o,o,o,o,o,o,o,o,o,o,o,o,o,o,o,o,o,o,o,z,z,z,z,z,z,z,z,z,z,z,z,z,z,z,z,z] rfl rfl (take_ofW HT_.out HW_.out (by kernel_rfl)) (fun _ _ _ h => h) (Or.inl ⟨by rfl, ?_⟩) hHeld ?_ ?_
               rotate_left
               ·rintro w' ⟨s0, s1, s2, s3, s4, s5, s6, s7, s8, s9, s10, s11, s12, s13, s14, s15, s16, s17, s18, s19, s20, s21, s22, s23⟩
                go_simp
                with_reducible rfl
               rotate_left
               ·simp only [Act.put, qa, qb, qc, i64_w, i32_w]
                rfl
               refine one_ (i := 23) (N := some 53) #[o,o,o,o,o,o,o,o,o,o,o,o,o,o,o,o,o,o,o,o,o,o,o,o,z,z,z,z,z,z,z,z,z,z,z,z,z,z,z,z] rfl rfl (one_of HT_.out (by kernel_rfl)) (by decide) (fun K hK => ?_)
               refine goes_ Try.func42 (by kernel_rfl) rfl #[.agg #[.int .i64 ((rd_T84 l0 a1).f2.f0), .int .i64 ((rd_T84 l0 a1).f2.f1)], .agg #[.int .i64 ((rd_T84 l0 x25_2).f2.f0), .int .i64 ((rd_T84 l0 x25_2).f2.f1)]] (by rfl) rfl rfl (by (try simp only [List.map_toArray, List.map_cons, List.map_nil]); first | done | rfl | (simp only [List.length_drop, List.length_take]; rfl)) ?_
               with_reducible refine (impl_IsNarrower.calls ((rd_T84 l0 a1).f2.f0) ((rd_T84 l0 a1).f2.f1) ((rd_T84 l0 x25_2).f2.f0) ((rd_T84 l0 x25_2).f2.f1) false _ A25.out).mono ?_
               rintro e w56 ⟨rfl, hb⟩
               refine ⟨_, rfl, ?_⟩
               replace BK321 := am (blk_below (bB BK321.out) hb)
               replace HB := am (below_step (sB HB.out) hb)
               (try clear hb)
               (try clear hb2)
               (try clear hk)
               (try clear hi)
               refine hK.out _ _ ⟨(blk_cell BK321.out 0).trans rfl, (blk_cell BK321.out 1).trans rfl, (blk_cell BK321.out 2).trans rfl, (blk_cell BK321.out 3).trans rfl, (blk_cell BK321.out 4).trans rfl, (blk_cell BK321.out 5).trans rfl, (blk_cell BK321.out 6).trans rfl, (blk_cell BK321.out 7).trans rfl, (hc_ HB hw323_0), (hc_ HB hw323_1), (hc_ HB hw323_2), (hc_ HB hw323_3), (hc_ HB hw323_4), (hc_ HB hw323_5), (hc_ HB hw323_6), (hc_ HB hw323_7), (hc_ HB hw325_0), (hc_ HB hw325_1), (hc_ HB hw325_2), (hc_ HB hw325_3), (hc_ HB hw325_4), (hc_ HB hw325_5), (hc_ HB hw325_6), (hc_ HB hw325_7)⟩ (fun hHeld => ?_)
               clear hK K
               refine norm_ (a' := ?_) ?_ ?_
               rotate_left
               ·show Act.put _ (some 53) _ = _
                simp only [Act.put, qa, qb, qc, i64_w, i32_w]
                rfl
               refine pure_ (i := 24) (N := some 54) (v := ?_) (a' := ?_) #[o,o,o,o,o,o,o,o,o,o,o,o,o,o,o,o,o,o,o,o,o,o,o,o,o,z,z,z,z,z,z,z,z,z,z,z,z,z,z,z] rfl rfl (any_of HT_.out (by kernel_rfl)) (fun _ _ _ h => h) (Or.inl ⟨by rfl, ?_⟩) ?_ ?_
               rotate_left
               ·intro w'
                go_simp
                with_reducible rfl
               rotate_left
               ·simp only [Act.put, qa, qb, qc, i64_w, i32_w]
                rfl
               refine pure_ (i := 25) (N := some 55) (v := ?_) (a' := ?_) #[o,o,o,o,o,o,o,o,o,o,o,o,o,o,o,o,o,o,o,o,o,o,o,o,o,o,z,z,z,z,z,z,z,z,z,z,z,z,z,z] rfl rfl (any_of HT_.out (by kernel_rfl)) (fun _ _ _ h => h) (Or.inl ⟨by rfl, ?_⟩) ?_ ?_
               rotate_left
               ·intro w'
                go_simp
                with_reducible rfl
               rotate_left
               ·simp only [Act.put, qa, qb, qc, i64_w, i32_w]
                rfl
               refine pure_ (i := 26) (N := some 56) (v := undef) (a' := ?_) #[o,o,o,o,o,o,o,o,o,o,o,o,o,o,o,o,o,o,o,o,o,o,o,o,o,o,o,z,z,z,z,z,z,z,z,z,z,z,z,z] rfl rfl (any_of HT_.out (by kernel_rfl)) (fun _ _ _ h => h) (Or.inr ⟨by rfl, rfl⟩) ?_ ?_
               rotate_left
               ·simp only [Act.put, qa, qb, qc, i64_w, i32_w]
                rfl
               refine pure_ (i := 27) (N := some 57) (v := undef) (a' := ?_) #[o,o,o,o,o,o,o,o,o,o,o,o,o,o,o,o,o,o,o,o,o,o,o,o,o,o,o,o,z,z,z,z,z,z,z,z,z,z,z,z] rfl rfl (any_of HT_.out (by kernel_rfl)) (fun _ _ _ h => h) (Or.inr ⟨by rfl, rfl⟩) ?_ ?_
               rotate_left
               ·simp only [Act.put, qa, qb, qc, i64_w, i32_w]
                rfl
               refine pure_ (i := 28) (N := some 58) (v := undef) (a' := ?_) #[o,o,o,o,o,o,o,o,o,o,o,o,o,o,o,o,o,o,o,o,o,o,o,o,o,o,o,o,o,z,z,z,z,z,z,z,z,z,z,z] rfl rfl (any_of HT_.out (by kernel_rfl)) (fun _ _ _ h => h) (Or.inr ⟨by rfl, rfl⟩) ?_ ?_
               rotate_left
               ·simp only [Act.put, qa, qb, qc, i64_w, i32_w]
                rfl
               refine pure_ (i := 29) (N := some 59) (v := undef) (a' := ?_) #[o,o,o,o,o,o,o,o,o,o,o,o,o,o,o,o,o,o,o,o,o,o,o,o,o,o,o,o,o,o,z,z,z,z,z,z,z,z,z,z] rfl rfl (any_of HT_.out (by kernel_rfl)) (fun _ _ _ h => h) (Or.inr ⟨by rfl, rfl⟩) ?_ ?_
               rotate_left
               ·simp only [Act.put, qa, qb, qc, i64_w, i32_w]
                rfl
               refine pure_ (i := 30) (N := some 60) (v := undef) (a' := ?_) #[o,o,o,o,o,o,o,o,o,o,o,o,o,o,o,o,o,o,o,o,o,o,o,o,o,o,o,o,o,o,o,z,z,z,z,z,z,z,z,z] rfl rfl (any_of HT_.out (by kernel_rfl)) (fun _ _ _ h => h) (Or.inr ⟨by rfl, rfl⟩) ?_ ?_
               rotate_left
               ·simp only [Act.put, qa, qb, qc, i64_w, i32_w]
                rfl
               refine pure_ (i := 31) (N := some 61) (v := undef) (a' := ?_) #[o,o,o,o,o,o,o,o,o,o,o,o,o,o,o,o,o,o,o,o,o,o,o,o,o,o,o,o,o,o,o,o,z,z,z,z,z,z,z,z] rfl rfl (any_of HT_.out (by kernel_rfl)) (fun _ _ _ h => h) (Or.inr ⟨by rfl, rfl⟩) ?_ ?_
               rotate_left
               ·simp only [Act.put, qa, qb, qc, i64_w, i32_w]
                rfl
               refine pure_ (i := 32) (N := some 62) (v := undef) (a' := ?_) #[o,o,o,o,o,o,o,o,o,o,o,o,o,o,o,o,o,o,o,o,o,o,o,o,o,o,o,o,o,o,o,o,o,z,z,z,z,z,z,z] rfl rfl (any_of HT_.out (by kernel_rfl)) (fun _ _ _ h => h) (Or.inr ⟨by rfl, rfl⟩) ?_ ?_
               rotate_left
               ·simp only [Act.put, qa, qb, qc, i64_w, i32_w]
                rfl
               refine pure_ (i := 33) (N := some 63) (v := undef) (a' := ?_) #[o,o,o,o,o,o,o,o,o,o,o,o,o,o,o,o,o,o,o,o,o,o,o,o,o,o,o,o,o,o,o,o,o,o,z,z,z,z,z,z] rfl rfl (any_of HT_.out (by kernel_rfl)) (fun _ _ _ h => h) (Or.inr ⟨by rfl, rfl⟩) ?_ ?_
               rotate_left
               ·simp only [Act.put, qa, qb, qc, i64_w, i32_w]
                rfl
               refine pure_ (i := 34) (N := some 64) (v := undef) (a' := ?_) #[o,o,o,o,o,o,o,o,o,o,o,o,o,o,o,o,o,o,o,o,o,o,o,o,o,o,o,o,o,o,o,o,o,o,o,z,z,z,z,z] rfl rfl (any_of HT_.out (by kernel_rfl)) (fun _ _ _ h => h) (Or.inr ⟨by rfl, rfl⟩) ?_ ?_
               rotate_left
               ·simp only [Act.put, qa, qb, qc, i64_w, i32_w]
                rfl
               refine pure_ (i := 35) (N := some 65) (v := undef) (a' := ?_) #[o,o,o,o,o,o,o,o,o,o,o,o,o,o,o,o,o,o,o,o,o,o,o,o,o,o,o,o,o,o,o,o,o,o,o,o,z,z,z,z] rfl rfl (any_of HT_.out (by kernel_rfl)) (fun _ _ _ h => h) (Or.inr ⟨by rfl, rfl⟩) ?_ ?_
               rotate_left
               ·simp only [Act.put, qa, qb, qc, i64_w, i32_w]
                rfl
               refine pure_ (i := 36) (N := some 66) (v := undef) (a' := ?_) #[o,o,o,o,o,o,o,o,o,o,o,o,o,o,o,o,o,o,o,o,o,o,o,o,o,o,o,o,o,o,o,o,o,o,o,o,o,z,z,z] rfl rfl (any_of HT_.out (by kernel_rfl)) (fun _ _ _ h => h) (Or.inr ⟨by rfl, rfl⟩) ?_ ?_
               rotate_left
               ·simp only [Act.put, qa, qb, qc, i64_w, i32_w]
                rfl
               refine pure_ (i := 37) (N := some 67) (v := undef) (a' := ?_) #[o,o,o,o,o,o,o,o,o,o,o,o,o,o,o,o,o,o,o,o,o,o,o,o,o,o,o,o,o,o,o,o,o,o,o,o,o,o,z,z] rfl rfl (any_of HT_.out (by kernel_rfl)) (fun _ _ _ h => h) (Or.inr ⟨by rfl, rfl⟩) ?_ ?_
               rotate_left
               ·simp only [Act.put, qa, qb, qc, i64_w, i32_w]
                rfl
               refine pure_ (i := 38) (N := some 68) (v := undef) (a' := ?_) #[o,o,o,o,o,o,o,o,o,o,o,o,o,o,o,o,o,o,o,o,o,o,o,o,o,o,o,o,o,o,o,o,o,o,o,o,o,o,o,z] rfl rfl (any_of HT_.out (by kernel_rfl)) (fun _ _ _ h => h) (Or.inr ⟨by rfl, rfl⟩) ?_ ?_
               rotate_left
               ·simp only [Act.put, qa, qb, qc, i64_w, i32_w]
                rfl
               refine pure_ (i := 39) (N := some 69) (v := ?_) (a' := ?_) #[o,o,o,o,o,o,o,o,o,o,o,o,o,o,o,o,o,o,o,o,o,o,o,o,o,o,o,o,o,o,o,o,o,o,o,o,o,o,o,o] rfl rfl (any_of HT_.out (by kernel_rfl)) (fun _ _ _ h => h) (Or.inl ⟨by rfl, ?_⟩) ?_ ?_
               rotate_left
               ·intro w'
                go_simp
                with_reducible rfl
               rotate_left
               ·simp only [Act.put, qa, qb, qc, i64_w, i32_w]
                rfl
               refine done_ (done_of HT_.out (by kernel_rfl)) ?_
               try go_wp2
               go_roundg k2
               case measure => have := HJ2.out; have := HK2.out; omega
               case rel => exact ⟨(wrap64 (x25_2 + 1)), (by first | rfl | (simp; done) | (simp [*]; done)), H', ⟨by have := HJ2.out; have := HK2.out; omega⟩, ⟨sB HB.out⟩⟩
             ·replace c24 := Bool.eq_false_iff.mpr c24
              subst c24
              have H1 : (impl_IsShadowed.l0 k2 l0 a1 l0 (l0.length : Int) (wrap64 (x25_2 + 1))) = some r := by rw [if_neg (show ¬ (false = true) by decide)] at H; exact H
              clear H
              have H := H1
              clear H1
              have H' := Aside0.mk H
              clear H
              have p320 : 0 ≤ (x25_2 : Int) := of_decide_eq_true (by first | (with_reducible assumption) | assumption)
              have q320 : x25_2 < (l0.length : Int) := of_decide_eq_true (by first | (with_reducible assumption) | assumption)
              obtain ⟨ad320, e320, hx320_0, hx320_1, hx320_2, hx320_3, hx320_4, hx320_5, hx320_6, hx320_7⟩ := at_T84 HR0.out x25_2 p320 q320
              cases e320
              replace hx320_0 := hc_ HB hx320_0
              replace hx320_1 := hc_ HB hx320_1
              replace hx320_2 := hc_ HB hx320_2
              replace hx320_3 := hc_ HB hx320_3
              replace hx320_4 := hc_ HB hx320_4
              replace hx320_5 := hc_ HB hx320_5
              replace hx320_6 := hc_ HB hx320_6
              replace hx320_7 := hc_ HB hx320_7
              replace p320 := eq_true p320
              replace q320 := eq_true q320
              try go_wp2_with (first | ((with_reducible refine gate_dst (N := 6) rfl ?_); (try (refine gate_guard (by rfl) ?_; dsimp only)); refine box_event ?hg (N := 6) ?hd (cs := #[.int .i64 0, .int .i64 0, .int .i64 0, .int .i64 0, .int .i64 0, .int .i64 0, .int .i64 0, .int .i64 0]) (t := 84) ?hr ?_; (case hd => rfl); (case hg => rfl); (case hr => first | (go_simp; done) | (go_simp; rfl)); intro gb321 hg w57 hbox hb; have q_ := hbx_ (sB HB.out) hg hb; have n0_ := q_.1; have n1_ := am (hbox); have n2_ := q_.2; have n3_ := n2_; clear HB; have HB := n0_; have BK321 := n1_; have GW321 := n2_; have GE321 := n3_; clear n0_ n1_ n2_ n3_ hb hbox hg; obtain ⟨hcz58_0, hcz58_1, hcz58_2, hcz58_3, hcz58_4, hcz58_5, hcz58_6, hcz58_7, hfz58_0, hfz58_1, hfz58_2, hfz58_3, hfz58_4, hfz58_5, hfz58_6, hfz58_7⟩ := blk8 BK321.out))
              have n0_ : Aside0 (((((((((w57.setCell ⟨gb321, 0, none⟩ (.int .i64 ((rd_T84 l0 x25_2).f0))).setCell ⟨gb321, 1, none⟩ (.int .i64 ((rd_T84 l0 x25_2).f1))).setCell ⟨gb321, 2, none⟩ (.int .i64 ((rd_T84 l0 x25_2).f2.f0))).setCell ⟨gb321, 3, none⟩ (.int .i64 ((rd_T84 l0 x25_2).f2.f1))).setCell ⟨gb321, 4, none⟩ (.int .i64 ((rd_T84 l0 x25_2).f3))).setCell ⟨gb321, 5, none⟩ (.int .i64 ((rd_T84 l0 x25_2).f4))).setCell ⟨gb321, 6, none⟩ (.int .i64 ((rd_T84 l0 x25_2).f5.f0))).setCell ⟨gb321, 7, none⟩ (.int .i64 ((rd_T84 l0 x25_2).f5.f1))).heap[gb321]? = some (.cells #[.int .i64 ((rd_T84 l0 x25_2).f0), .int .i64 ((rd_T84 l0 x25_2).f1), .int .i64 ((rd_T84 l0 x25_2).f2.f0), .int .i64 ((rd_T84 l0 x25_2).f2.f1), .int .i64 ((rd_T84 l0 x25_2).f3), .int .i64 ((rd_T84 l0 x25_2).f4), .int .i64 ((rd_T84 l0 x25_2).f5.f0), .int .i64 ((rd_T84 l0 x25_2).f5.f1)] 84 (0, 0))) := ⟨by refine bB ?_; refine blk_put (cs := #[.int .i64 ((rd_T84 l0 x25_2).f0), .int .i64 ((rd_T84 l0 x25_2).f1), .int .i64 ((rd_T84 l0 x25_2).f2.f0), .int .i64 ((rd_T84 l0 x25_2).f2.f1), .int .i64 ((rd_T84 l0 x25_2).f3), .int .i64 ((rd_T84 l0 x25_2).f4), .int .i64 ((rd_T84 l0 x25_2).f5.f0), .int .i64 0]) ?_ 7 _ rfl; refine bB ?_; refine blk_put (cs := #[.int .i64 ((rd_T84 l0 x25_2).f0), .int .i64 ((rd_T84 l0 x25_2).f1), .int .i64 ((rd_T84 l0 x25_2).f2.f0), .int .i64 ((rd_T84 l0 x25_2).f2.f1), .int .i64 ((rd_T84 l0 x25_2).f3), .int .i64 ((rd_T84 l0 x25_2).f4), .int .i64 0, .int .i64 0]) ?_ 6 _ rfl; refine bB ?_; refine blk_put (cs := #[.int .i64 ((rd_T84 l0 x25_2).f0), .int .i64 ((rd_T84 l0 x25_2).f1), .int .i64 ((rd_T84 l0 x25_2).f2.f0), .int .i64 ((rd_T84 l0 x25_2).f2.f1), .int .i64 ((rd_T84 l0 x25_2).f3), .int .i64 0, .int .i64 0, .int .i64 0]) ?_ 5 _ rfl; refine bB ?_; refine blk_put (cs := #[.int .i64 ((rd_T84 l0 x25_2).f0), .int .i64 ((rd_T84 l0 x25_2).f1), .int .i64 ((rd_T84 l0 x25_2).f2.f0), .int .i64 ((rd_T84 l0 x25_2).f2.f1), .int .i64 0, .int .i64 0, .int .i64 0, .int .i64 0]) ?_ 4 _ rfl; refine bB ?_; refine blk_put (cs := #[.int .i64 ((rd_T84 l0 x25_2).f0), .int .i64 ((rd_T84 l0 x25_2).f1), .int .i64 ((rd_T84 l0 x25_2).f2.f0), .int .i64 0, .int .i64 0, .int .i64 0, .int .i64 0, .int .i64 0]) ?_ 3 _ rfl; refine bB ?_; refine blk_put (cs := #[.int .i64 ((rd_T84 l0 x25_2).f0), .int .i64 ((rd_T84 l0 x25_2).f1), .int .i64 0, .int .i64 0, .int .i64 0, .int .i64 0, .int .i64 0, .int .i64 0]) ?_ 2 _ rfl; refine bB ?_; refine blk_put (cs := #[.int .i64 ((rd_T84 l0 x25_2).f0), .int .i64 0, .int .i64 0, .int .i64 0, .int .i64 0, .int .i64 0, .int .i64 0, .int .i64 0]) ?_ 1 _ rfl; refine bB ?_; refine blk_put (cs := #[.int .i64 0, .int .i64 0, .int .i64 0, .int .i64 0, .int .i64 0, .int .i64 0, .int .i64 0, .int .i64 0]) ?_ 0 _ rfl; refine bB ?_; exact BK321.out⟩
              have n1_ : Aside0 (Below w.heap.size w ((((((((w57.setCell ⟨gb321, 0, none⟩ (.int .i64 ((rd_T84 l0 x25_2).f0))).setCell ⟨gb321, 1, none⟩ (.int .i64 ((rd_T84 l0 x25_2).f1))).setCell ⟨gb321, 2, none⟩ (.int .i64 ((rd_T84 l0 x25_2).f2.f0))).setCell ⟨gb321, 3, none⟩ (.int .i64 ((rd_T84 l0 x25_2).f2.f1))).setCell ⟨gb321, 4, none⟩ (.int .i64 ((rd_T84 l0 x25_2).f3))).setCell ⟨gb321, 5, none⟩ (.int .i64 ((rd_T84 l0 x25_2).f4))).setCell ⟨gb321, 6, none⟩ (.int .i64 ((rd_T84 l0 x25_2).f5.f0))).setCell ⟨gb321, 7, none⟩ (.int .i64 ((rd_T84 l0 x25_2).f5.f1)))) := ⟨sB HB.out⟩
              (try clear BK321)
              (try clear HB)
              generalize ((((((((w57.setCell ⟨gb321, 0, none⟩ (.int .i64 ((rd_T84 l0 x25_2).f0))).setCell ⟨gb321, 1, none⟩ (.int .i64 ((rd_T84 l0 x25_2).f1))).setCell ⟨gb321, 2, none⟩ (.int .i64 ((rd_T84 l0 x25_2).f2.f0))).setCell ⟨gb321, 3, none⟩ (.int .i64 ((rd_T84 l0 x25_2).f2.f1))).setCell ⟨gb321, 4, none⟩ (.int .i64 ((rd_T84 l0 x25_2).f3))).setCell ⟨gb321, 5, none⟩ (.int .i64 ((rd_T84 l0 x25_2).f4))).setCell ⟨gb321, 6, none⟩ (.int .i64 ((rd_T84 l0 x25_2).f5.f0))).setCell ⟨gb321, 7, none⟩ (.int .i64 ((rd_T84 l0 x25_2).f5.f1))) = w59 at n0_ n1_ ⊢
              have BK321 := n0_
              have HB := n1_
              clear n0_ n1_
              replace BK321 := am (blk_drew BK321.out)
              replace HB := am (below_drew1 HB.out)
              have p323 : 0 ≤ (a1 : Int) := of_decide_eq_true (by first | (with_reducible assumption) | assumption)
              have q323 : a1 < (l0.length : Int) := of_decide_eq_true (by first | (with_reducible assumption) | assumption)
              obtain ⟨ad323, e323, hx323_0, hx323_1, hx323_2, hx323_3, hx323_4, hx323_5, hx323_6, hx323_7⟩ := at_T84 HR0.out a1 p323 q323
              have hw323_7 := hx323_7
              have hw323_6 := hx323_6
              have hw323_5 := hx323_5
              have hw323_4 := hx323_4
              have hw323_3 := hx323_3
              have hw323_2 := hx323_2
              have hw323_1 := hx323_1
              have hw323_0 := hx323_0
              obtain rfl : ad320 = ad323 := (by injection e323)
              replace hx323_0 := hc_ HB hx323_0
              replace hx323_1 := hc_ HB hx323_1
              replace hx323_2 := hc_ HB hx323_2
              replace hx323_3 := hc_ HB hx323_3
              replace hx323_4 := hc_ HB hx323_4
              replace hx323_5 := hc_ HB hx323_5
              replace hx323_6 := hc_ HB hx323_6
              replace hx323_7 := hc_ HB hx323_7
              replace p323 := eq_true p323
              replace q323 := eq_true q323
              refine start_ (n := 40) (S := fun w' => w'.cell? ⟨gb321, 0, none⟩ = some (.int .i64 ((rd_T84 l0 x25_2).f0)) ∧ w'.cell? ⟨gb321, 1, none⟩ = some (.int .i64 ((rd_T84 l0 x25_2).f1)) ∧ w'.cell? ⟨gb321, 2, none⟩ = some (.int .i64 ((rd_T84 l0 x25_2).f2.f0)) ∧ w'.cell? ⟨gb321, 3, none⟩ = some (.int .i64 ((rd_T84 l0 x25_2).f2.f1)) ∧ w'.cell? ⟨gb321, 4, none⟩ = some (.int .i64 ((rd_T84 l0 x25_2).f3)) ∧ w'.cell? ⟨gb321, 5, none⟩ = some (.int .i64 ((rd_T84 l0 x25_2).f4)) ∧ w'.cell? ⟨gb321, 6, none⟩ = some (.int .i64 ((rd_T84 l0 x25_2).f5.f0)) ∧ w'.cell? ⟨gb321, 7, none⟩ = some (.int .i64 ((rd_T84 l0 x25_2).f5.f1)) ∧ w'.cell? (ad320.add ((a1).toNat * 8)) = some (.int .i64 ((rd_T84 l0 a1).f0)) ∧ w'.cell? ⟨(ad320.add ((a1).toNat * 8)).block, (ad320.add ((a1).toNat * 8)).off + 1, none⟩ = some (.int .i64 ((rd_T84 l0 a1).f1)) ∧ w'.cell? ⟨(ad320.add ((a1).toNat * 8)).block, (ad320.add ((a1).toNat * 8)).off + 2, none⟩ = some (.int .i64 ((rd_T84 l0 a1).f2.f0)) ∧ w'.cell? ⟨(ad320.add ((a1).toNat * 8)).block, (ad320.add ((a1).toNat * 8)).off + 3, none⟩ = some (.int .i64 ((rd_T84 l0 a1).f2.f1)) ∧ w'.cell? ⟨(ad320.add ((a1).toNat * 8)).block, (ad320.add ((a1).toNat * 8)).off + 4, none⟩ = some (.int .i64 ((rd_T84 l0 a1).f3)) ∧ w'.cell? ⟨(ad320.add ((a1).toNat * 8)).block, (ad320.add ((a1).toNat * 8)).off + 5, none⟩ = some (.int .i64 ((rd_T84 l0 a1).f4)) ∧ w'.cell? ⟨(ad320.add ((a1).toNat * 8)).block, (ad320.add ((a1).toNat * 8)).off + 6, none⟩ = some (.int .i64 ((rd_T84 l0 a1).f5.f0)) ∧ w'.cell? ⟨(ad320.add ((a1).toNat * 8)).block, (ad320.add ((a1).toNat * 8)).off + 7, none⟩ = some (.int .i64 ((rd_T84 l0 a1).f5.f1))) (ds := []) #[z,z,z,z,z,z,z,z,z,z,z,z,z,z,z,z,z,z,z,z,z,z,z,z,z,z,z,z,z,z,z,z,z,z,z,z,z,z,z,z] (by kernel_rfl) rfl rfl ⟨(blk_cell BK321.out 0).trans rfl, (blk_cell BK321.out 1).trans rfl, (blk_cell BK321.out 2).trans rfl, (blk_cell BK321.out 3).trans rfl, (blk_cell BK321.out 4).trans rfl, (blk_cell BK321.out 5).trans rfl, (blk_cell BK321.out 6).trans rfl, (blk_cell BK321.out 7).trans rfl, (hc_ HB hw323_0), (hc_ HB hw323_1), (hc_ HB hw323_2), (hc_ HB hw323_3), (hc_ HB hw323_4), (hc_ HB hw323_5), (hc_ HB hw323_6), (hc_ HB hw323_7)⟩ (fun hHeld => ?_); refine with_tabW impl_IsShadowed.tab6 impl_IsShadowed.bits6 (fun HT_ HW_ => ?_)
              generalize w59.drew = w60 at BK321 HB hx323_0 hx323_1 hx323_2 hx323_3 hx323_4 hx323_5 hx323_6 hx323_7 hHeld ⊢
              refine pure_ (i := 0) (N := some 30) (v := ?_) (a' := ?_) #[o,z,z,z,z,z,z,z,z,z,z,z,z,z,z,z,z,z,z,z,z,z,z,z,z,z,z,z,z,z,z,z,z,z,z,z,z,z,z,z] rfl rfl (any_of HT_.out (by kernel_rfl)) (fun _ _ _ h => h) (Or.inl ⟨by rfl, ?_⟩) ?_ ?_
              rotate_left
              ·intro w'
               go_simp
               with_reducible rfl
              rotate_left
              ·simp only [Act.put, qa, qb, qc, i64_w, i32_w]
               rfl
              refine pure_ (i := 1) (N := some 31) (v := ?_) (a' := ?_) #[o,o,z,z,z,z,z,z,z,z,z,z,z,z,z,z,z,z,z,z,z,z,z,z,z,z,z,z,z,z,z,z,z,z,z,z,z,z,z,z] rfl rfl (any_of HT_.out (by kernel_rfl)) (fun _ _ _ h => h) (Or.inl ⟨by rfl, ?_⟩) ?_ ?_
              rotate_left
              ·intro w'
               go_simp
               with_reducible rfl
              rotate_left
              ·simp only [Act.put, qa, qb, qc, i64_w, i32_w]
               rfl
              refine pure_ (i := 2) (N := some 32) (v := ?_) (a' := ?_) #[o,o,o,z,z,z,z,z,z,z,z,z,z,z,z,z,z,z,z,z,z,z,z,z,z,z,z,z,z,z,z,z,z,z,z,z,z,z,z,z] rfl rfl (any_of HT_.out (by kernel_rfl)) (fun _ _ _ h => h) (Or.inl ⟨by rfl, ?_⟩) ?_ ?_
              rotate_left
              ·intro w'
               go_simp
               with_reducible rfl
              rotate_left
              ·simp only [Act.put, qa, qb, qc, i64_w, i32_w]
               rfl
              refine pure_ (i := 3) (N := some 33) (v := ?_) (a' := ?_) #[o,o,o,o,z,z,z,z,z,z,z,z,z,z,z,z,z,z,z,z,z,z,z,z,z,z,z,z,z,z,z,z,z,z,z,z,z,z,z,z] rfl rfl (any_of HT_.out (by kernel_rfl)) (fun _ _ _ h => h) (Or.inl ⟨by rfl, ?_⟩) ?_ ?_
              rotate_left
              ·intro w'
               go_simp
               with_reducible rfl
              rotate_left
              ·simp only [Act.put, qa, qb, qc, i64_w, i32_w]
               rfl
              refine take_ (i := 4) (N := some 34) (v := ?_) (a' := ?_) #[o,o,o,o,o,z,z,z,z,z,z,z,z,z,z,z,z,z,z,z,z,z,z,z,z,z,z,z,z,z,z,z,z,z,z,z,z,z,z,z] rfl rfl (take_ofW HT_.out HW_.out (by kernel_rfl)) (fun _ _ _ h => h) (Or.inl ⟨by rfl, ?_⟩) hHeld ?_ ?_
              rotate_left
              ·rintro w' ⟨s0, s1, s2, s3, s4, s5, s6, s7, s8, s9, s10, s11, s12, s13, s14, s15⟩
               go_simp
               with_reducible rfl
              rotate_left
              ·simp only [Act.put, qa, qb, qc, i64_w, i32_w]
               rfl
              refine one_ (i := 5) (N := some 35) #[o,o,o,o,o,o,z,z,z,z,z,z,z,z,z,z,z,z,z,z,z,z,z,z,z,z,z,z,z,z,z,z,z,z,z,z,z,z,z,z] rfl rfl (one_of HT_.out (by kernel_rfl)) (by decide) (fun K hK => ?_)
              refine goes_ Try.func56 (by kernel_rfl) rfl #[.agg #[.int .i64 ((rd_T84 l0 x25_2).f0), .int .i64 ((rd_T84 l0 x25_2).f1), .int .i64 ((rd_T84 l0 x25_2).f2.f0), .int .i64 ((rd_T84 l0 x25_2).f2.f1), .int .i64 ((rd_T84 l0 x25_2).f3), .int .i64 ((rd_T84 l0 x25_2).f4), .int .i64 ((rd_T84 l0 x25_2).f5.f0), .int .i64 ((rd_T84 l0 x25_2).f5.f1)]] (by rfl) rfl rfl (by (try simp only [List.map_toArray, List.map_cons, List.map_nil]); first | done | rfl | (simp only [List.length_drop, List.length_take]; rfl)) ?_
              with_reducible refine (impl_IsRule.calls k2 ((rd_T84 l0 x25_2).f0) ((rd_T84 l0 x25_2).f1) ((rd_T84 l0 x25_2).f2.f0) ((rd_T84 l0 x25_2).f2.f1) ((rd_T84 l0 x25_2).f3) ((rd_T84 l0 x25_2).f4) ((rd_T84 l0 x25_2).f5.f0) ((rd_T84 l0 x25_2).f5.f1) true _ A19.out).mono ?_
              rintro e w61 ⟨rfl, hb⟩
              refine ⟨_, rfl, ?_⟩
              replace BK321 := am (blk_below (bB BK321.out) hb)
              replace HB := am (below_step (sB HB.out) hb)
              (try clear hb)
              (try clear hb2)
              (try clear hk)
              (try clear hi)
              refine hK.out _ _ ⟨(blk_cell BK321.out 0).trans rfl, (blk_cell BK321.out 1).trans rfl, (blk_cell BK321.out 2).trans rfl, (blk_cell BK321.out 3).trans rfl, (blk_cell BK321.out 4).trans rfl, (blk_cell BK321.out 5).trans rfl, (blk_cell BK321.out 6).trans rfl, (blk_cell BK321.out 7).trans rfl, (hc_ HB hw323_0), (hc_ HB hw323_1), (hc_ HB hw323_2), (hc_ HB hw323_3), (hc_ HB hw323_4), (hc_ HB hw323_5), (hc_ HB hw323_6), (hc_ HB hw323_7)⟩ (fun hHeld => ?_)
              clear hK K
              refine norm_ (a' := ?_) ?_ ?_
              rotate_left
              ·show Act.put _ (some 35) _ = _
               simp only [Act.put, qa, qb, qc, i64_w, i32_w]
               rfl
              refine pure_ (i := 6) (N := some 36) (v := ?_) (a' := ?_) #[o,o,o,o,o,o,o,z,z,z,z,z,z,z,z,z,z,z,z,z,z,z,z,z,z,z,z,z,z,z,z,z,z,z,z,z,z,z,z,z] rfl rfl (any_of HT_.out (by kernel_rfl)) (fun _ _ _ h => h) (Or.inl ⟨by rfl, ?_⟩) ?_ ?_
              rotate_left
              ·intro w'
               go_simp
               with_reducible rfl
              rotate_left
              ·simp only [Act.put, qa, qb, qc, i64_w, i32_w]
               rfl
              refine pure_ (i := 7) (N := some 37) (v := ?_) (a' := ?_) #[o,o,o,o,o,o,o,o,z,z,z,z,z,z,z,z,z,z,z,z,z,z,z,z,z,z,z,z,z,z,z,z,z,z,z,z,z,z,z,z] rfl rfl (any_of HT_.out (by kernel_rfl)) (fun _ _ _ h => h) (Or.inl ⟨by rfl, ?_⟩) ?_ ?_
              rotate_left
              ·intro w'
               go_simp
               with_reducible rfl
              rotate_left
              ·simp only [Act.put, qa, qb, qc, i64_w, i32_w]
               rfl
              refine pure_ (i := 9) (N := some 39) (v := ?_) (a' := ?_) #[o,o,o,o,o,o,o,o,z,o,z,z,z,z,z,z,z,z,z,z,z,z,z,z,z,z,z,z,z,z,z,z,z,z,z,z,z,z,z,z] rfl rfl (any_of HT_.out (by kernel_rfl)) (fun _ _ _ h => h) (Or.inl ⟨by rfl, ?_⟩) ?_ ?_
              rotate_left
              ·intro w'
               go_simp
               with_reducible rfl
              rotate_left
              ·simp only [Act.put, qa, qb, qc, i64_w, i32_w]
               rfl
              refine pure_ (i := 10) (N := some 40) (v := ?_) (a' := ?_) #[o,o,o,o,o,o,o,o,z,o,o,z,z,z,z,z,z,z,z,z,z,z,z,z,z,z,z,z,z,z,z,z,z,z,z,z,z,z,z,z] rfl rfl (any_of HT_.out (by kernel_rfl)) (fun _ _ _ h => h) (Or.inl ⟨by rfl, ?_⟩) ?_ ?_
              rotate_left
              ·intro w'
               go_simp
               with_reducible rfl
              rotate_left
              ·simp only [Act.put, qa, qb, qc, i64_w, i32_w]
               rfl
              refine pure_ (i := 11) (N := some 41) (v := ?_) (a' := ?_) #[o,o,o,o,o,o,o,o,z,o,o,o,z,z,z,z,z,z,z,z,z,z,z,z,z,z,z,z,z,z,z,z,z,z,z,z,z,z,z,z] rfl rfl (any_of HT_.out (by kernel_rfl)) (fun _ _ _ h => h) (Or.inl ⟨by rfl, ?_⟩) ?_ ?_
              rotate_left
              ·intro w'
               go_simp
               with_reducible rfl
              rotate_left
              ·simp only [Act.put, qa, qb, qc, i64_w, i32_w]
               rfl
              refine take_ (i := 8) (N := some 38) (v := ?_) (a' := ?_) #[o,o,o,o,o,o,o,o,o,o,o,o,z,z,z,z,z,z,z,z,z,z,z,z,z,z,z,z,z,z,z,z,z,z,z,z,z,z,z,z] rfl rfl (take_ofW HT_.out HW_.out (by kernel_rfl)) (fun _ _ _ h => h) (Or.inl ⟨by rfl, ?_⟩) hHeld ?_ ?_
              rotate_left
              ·rintro w' ⟨s0, s1, s2, s3, s4, s5, s6, s7, s8, s9, s10, s11, s12, s13, s14, s15⟩
               go_simp
               with_reducible rfl
              rotate_left
              ·simp only [Act.put, qa, qb, qc, i64_w, i32_w]
               rfl
              refine take_ (i := 12) (N := some 42) (v := ?_) (a' := ?_) #[o,o,o,o,o,o,o,o,o,o,o,o,o,z,z,z,z,z,z,z,z,z,z,z,z,z,z,z,z,z,z,z,z,z,z,z,z,z,z,z] rfl rfl (take_ofW HT_.out HW_.out (by kernel_rfl)) (fun _ _ _ h => h) (Or.inl ⟨by rfl, ?_⟩) hHeld ?_ ?_
              rotate_left
              ·rintro w' ⟨s0, s1, s2, s3, s4, s5, s6, s7, s8, s9, s10, s11, s12, s13, s14, s15⟩
               go_simp
               with_reducible rfl
              rotate_left
              ·simp only [Act.put, qa, qb, qc, i64_w, i32_w]
               rfl
              refine one_ (i := 13) (N := some 43) #[o,o,o,o,o,o,o,o,o,o,o,o,o,o,z,z,z,z,z,z,z,z,z,z,z,z,z,z,z,z,z,z,z,z,z,z,z,z,z,z] rfl rfl (one_of HT_.out (by kernel_rfl)) (by decide) (fun K hK => ?_)
              refine goes_ Try.func53 (by kernel_rfl) rfl #[.agg #[.int .i64 ((rd_T84 l0 x25_2).f0), .int .i64 ((rd_T84 l0 x25_2).f1), .int .i64 ((rd_T84 l0 x25_2).f2.f0), .int .i64 ((rd_T84 l0 x25_2).f2.f1), .int .i64 ((rd_T84 l0 x25_2).f3), .int .i64 ((rd_T84 l0 x25_2).f4), .int .i64 ((rd_T84 l0 x25_2).f5.f0), .int .i64 ((rd_T84 l0 x25_2).f5.f1)], .agg #[.int .i64 ((rd_T84 l0 a1).f0), .int .i64 ((rd_T84 l0 a1).f1), .int .i64 ((rd_T84 l0 a1).f2.f0), .int .i64 ((rd_T84 l0 a1).f2.f1), .int .i64 ((rd_T84 l0 a1).f3), .int .i64 ((rd_T84 l0 a1).f4), .int .i64 ((rd_T84 l0 a1).f5.f0), .int .i64 ((rd_T84 l0 a1).f5.f1)]] (by rfl) rfl rfl (by (try simp only [List.map_toArray, List.map_cons, List.map_nil]); first | done | rfl | (simp only [List.length_drop, List.length_take]; rfl)) ?_
              with_reducible refine (impl_IsBefore.calls k2 ((rd_T84 l0 x25_2).f0) ((rd_T84 l0 x25_2).f1) ((rd_T84 l0 x25_2).f2.f0) ((rd_T84 l0 x25_2).f2.f1) ((rd_T84 l0 x25_2).f3) ((rd_T84 l0 x25_2).f4) ((rd_T84 l0 x25_2).f5.f0) ((rd_T84 l0 x25_2).f5.f1) ((rd_T84 l0 a1).f0) ((rd_T84 l0 a1).f1) ((rd_T84 l0 a1).f2.f0) ((rd_T84 l0 a1).f2.f1) ((rd_T84 l0 a1).f3) ((rd_T84 l0 a1).f4) ((rd_T84 l0 a1).f5.f0) ((rd_T84 l0 a1).f5.f1) false _ A23.out).mono ?_
              rintro e w62 ⟨rfl, hb⟩
              refine ⟨_, rfl, ?_⟩
              replace BK321 := am (blk_below (bB BK321.out) hb)
              replace HB := am (below_step (sB HB.out) hb)
              (try clear hb)
              (try clear hb2)
              (try clear hk)
              (try clear hi)
              refine hK.out _ _ ⟨(blk_cell BK321.out 0).trans rfl, (blk_cell BK321.out 1).trans rfl, (blk_cell BK321.out 2).trans rfl, (blk_cell BK321.out 3).trans rfl, (blk_cell BK321.out 4).trans rfl, (blk_cell BK321.out 5).trans rfl, (blk_cell BK321.out 6).trans rfl, (blk_cell BK321.out 7).trans rfl, (hc_ HB hw323_0), (hc_ HB hw323_1), (hc_ HB hw323_2), (hc_ HB hw323_3), (hc_ HB hw323_4), (hc_ HB hw323_5), (hc_ HB hw323_6), (hc_ HB hw323_7)⟩ (fun hHeld => ?_)
              clear hK K
              refine norm_ (a' := ?_) ?_ ?_
              rotate_left
              ·show Act.put _ (some 43) _ = _
               simp only [Act.put, qa, qb, qc, i64_w, i32_w]
               rfl
              refine pure_ (i := 14) (N := some 44) (v := ?_) (a' := ?_) #[o,o,o,o,o,o,o,o,o,o,o,o,o,o,o,z,z,z,z,z,z,z,z,z,z,z,z,z,z,z,z,z,z,z,z,z,z,z,z,z] rfl rfl (any_of HT_.out (by kernel_rfl)) (fun _ _ _ h => h) (Or.inl ⟨by rfl, ?_⟩) ?_ ?_
              rotate_left
              ·intro w'
               go_simp
               with_reducible rfl
              rotate_left
              ·simp only [Act.put, qa, qb, qc, i64_w, i32_w]
               rfl
              refine pure_ (i := 15) (N := some 45) (v := ?_) (a' := ?_) #[o,o,o,o,o,o,o,o,o,o,o,o,o,o,o,o,z,z,z,z,z,z,z,z,z,z,z,z,z,z,z,z,z,z,z,z,z,z,z,z] rfl rfl (any_of HT_.out (by kernel_rfl)) (fun _ _ _ h => h) (Or.inl ⟨by rfl, ?_⟩) ?_ ?_
              rotate_left
              ·intro w'
               go_simp
               with_reducible rfl
              rotate_left
              ·simp only [Act.put, qa, qb, qc, i64_w, i32_w]
               rfl
              refine pure_ (i := 16) (N := some 46) (v := undef) (a' := ?_) #[o,o,o,o,o,o,o,o,o,o,o,o,o,o,o,o,o,z,z,z,z,z,z,z,z,z,z,z,z,z,z,z,z,z,z,z,z,z,z,z] rfl rfl (any_of HT_.out (by kernel_rfl)) (fun _ _ _ h => h) (Or.inr ⟨by rfl, rfl⟩) ?_ ?_
              rotate_left
              ·simp only [Act.put, qa, qb, qc, i64_w, i32_w]
               rfl
              refine pure_ (i := 17) (N := some 47) (v := undef) (a' := ?_) #[o,o,o,o,o,o,o,o,o,o,o,o,o,o,o,o,o,o,z,z,z,z,z,z,z,z,z,z,z,z,z,z,z,z,z,z,z,z,z,z] rfl rfl (any_of HT_.out (by kernel_rfl)) (fun _ _ _ h => h) (Or.inr ⟨by rfl, rfl⟩) ?_ ?_
              rotate_left
              ·simp only [Act.put, qa, qb, qc, i64_w, i32_w]
               rfl
              refine pure_ (i := 18) (N := some 48) (v := undef) (a' := ?_) #[o,o,o,o,o,o,o,o,o,o,o,o,o,o,o,o,o,o,o,z,z,z,z,z,z,z,z,z,z,z,z,z,z,z,z,z,z,z,z,z] rfl rfl (any_of HT_.out (by kernel_rfl)) (fun _ _ _ h => h) (Or.inr ⟨by rfl, rfl⟩) ?_ ?_
              rotate_left
              ·simp only [Act.put, qa, qb, qc, i64_w, i32_w]
               rfl
              refine pure_ (i := 19) (N := some 49) (v := undef) (a' := ?_) #[o,o,o,o,o,o,o,o,o,o,o,o,o,o,o,o,o,o,o,o,z,z,z,z,z,z,z,z,z,z,z,z,z,z,z,z,z,z,z,z] rfl rfl (any_of HT_.out (by kernel_rfl)) (fun _ _ _ h => h) (Or.inr ⟨by rfl, rfl⟩) ?_ ?_
              rotate_left
              ·simp only [Act.put, qa, qb, qc, i64_w, i32_w]
               rfl
              refine pure_ (i := 20) (N := some 50) (v := undef) (a' := ?_) #[o,o,o,o,o,o,o,o,o,o,o,o,o,o,o,o,o,o,o,o,o,z,z,z,z,z,z,z,z,z,z,z,z,z,z,z,z,z,z,z] rfl rfl (any_of HT_.out (by kernel_rfl)) (fun _ _ _ h => h) (Or.inr ⟨by rfl, rfl⟩) ?_ ?_
              rotate_left
              ·simp only [Act.put, qa, qb, qc, i64_w, i32_w]
               rfl
              refine pure_ (i := 21) (N := some 51) (v := undef) (a' := ?_) #[o,o,o,o,o,o,o,o,o,o,o,o,o,o,o,o,o,o,o,o,o,o,z,z,z,z,z,z,z,z,z,z,z,z,z,z,z,z,z,z] rfl rfl (any_of HT_.out (by kernel_rfl)) (fun _ _ _ h => h) (Or.inr ⟨by rfl, rfl⟩) ?_ ?_
              rotate_left
              ·simp only [Act.put, qa, qb, qc, i64_w, i32_w]
               rfl
              refine pure_ (i := 22) (N := some 52) (v := undef) (a' := ?_) #[o,o,o,o,o,o,o,o,o,o,o,o,o,o,o,o,o,o,o,o,o,o,o,z,z,z,z,z,z,z,z,z,z,z,z,z,z,z,z,z] rfl rfl (any_of HT_.out (by kernel_rfl)) (fun _ _ _ h => h) (Or.inr ⟨by rfl, rfl⟩) ?_ ?_
              rotate_left
              ·simp only [Act.put, qa, qb, qc, i64_w, i32_w]
               rfl
              refine pure_ (i := 23) (N := some 53) (v := undef) (a' := ?_) #[o,o,o,o,o,o,o,o,o,o,o,o,o,o,o,o,o,o,o,o,o,o,o,o,z,z,z,z,z,z,z,z,z,z,z,z,z,z,z,z] rfl rfl (any_of HT_.out (by kernel_rfl)) (fun _ _ _ h => h) (Or.inr ⟨by rfl, rfl⟩) ?_ ?_
              rotate_left
              ·simp only [Act.put, qa, qb, qc, i64_w, i32_w]
               rfl
              refine pure_ (i := 24) (N := some 54) (v := ?_) (a' := ?_) #[o,o,o,o,o,o,o,o,o,o,o,o,o,o,o,o,o,o,o,o,o,o,o,o,o,z,z,z,z,z,z,z,z,z,z,z,z,z,z,z] rfl rfl (any_of HT_.out (by kernel_rfl)) (fun _ _ _ h => h) (Or.inl ⟨by rfl, ?_⟩) ?_ ?_
              rotate_left
              ·intro w'
               go_simp
               with_reducible rfl
              rotate_left
              ·simp only [Act.put, qa, qb, qc, i64_w, i32_w]
               rfl
              refine pure_ (i := 25) (N := some 55) (v := ?_) (a' := ?_) #[o,o,o,o,o,o,o,o,o,o,o,o,o,o,o,o,o,o,o,o,o,o,o,o,o,o,z,z,z,z,z,z,z,z,z,z,z,z,z,z] rfl rfl (any_of HT_.out (by kernel_rfl)) (fun _ _ _ h => h) (Or.inl ⟨by rfl, ?_⟩) ?_ ?_
              rotate_left
              ·intro w'
               go_simp
               with_reducible rfl
              rotate_left
              ·simp only [Act.put, qa, qb, qc, i64_w, i32_w]
               rfl
              refine pure_ (i := 26) (N := some 56) (v := undef) (a' := ?_) #[o,o,o,o,o,o,o,o,o,o,o,o,o,o,o,o,o,o,o,o,o,o,o,o,o,o,o,z,z,z,z,z,z,z,z,z,z,z,z,z] rfl rfl (any_of HT_.out (by kernel_rfl)) (fun _ _ _ h => h) (Or.inr ⟨by rfl, rfl⟩) ?_ ?_
              rotate_left
              ·simp only [Act.put, qa, qb, qc, i64_w, i32_w]
               rfl
              refine pure_ (i := 27) (N := some 57) (v := undef) (a' := ?_) #[o,o,o,o,o,o,o,o,o,o,o,o,o,o,o,o,o,o,o,o,o,o,o,o,o,o,o,o,z,z,z,z,z,z,z,z,z,z,z,z] rfl rfl (any_of HT_.out (by kernel_rfl)) (fun _ _ _ h => h) (Or.inr ⟨by rfl, rfl⟩) ?_ ?_
              rotate_left
              ·simp only [Act.put, qa, qb, qc, i64_w, i32_w]
               rfl
              refine pure_ (i := 28) (N := some 58) (v := undef) (a' := ?_) #[o,o,o,o,o,o,o,o,o,o,o,o,o,o,o,o,o,o,o,o,o,o,o,o,o,o,o,o,o,z,z,z,z,z,z,z,z,z,z,z] rfl rfl (any_of HT_.out (by kernel_rfl)) (fun _ _ _ h => h) (Or.inr ⟨by rfl, rfl⟩) ?_ ?_
              rotate_left
              ·simp only [Act.put, qa, qb, qc, i64_w, i32_w]
               rfl
              refine pure_ (i := 29) (N := some 59) (v := undef) (a' := ?_) #[o,o,o,o,o,o,o,o,o,o,o,o,o,o,o,o,o,o,o,o,o,o,o,o,o,o,o,o,o,o,z,z,z,z,z,z,z,z,z,z] rfl rfl (any_of HT_.out (by kernel_rfl)) (fun _ _ _ h => h) (Or.inr ⟨by rfl, rfl⟩) ?_ ?_
              rotate_left
              ·simp only [Act.put, qa, qb, qc, i64_w, i32_w]
               rfl
              refine pure_ (i := 30) (N := some 60) (v := undef) (a' := ?_) #[o,o,o,o,o,o,o,o,o,o,o,o,o,o,o,o,o,o,o,o,o,o,o,o,o,o,o,o,o,o,o,z,z,z,z,z,z,z,z,z] rfl rfl (any_of HT_.out (by kernel_rfl)) (fun _ _ _ h => h) (Or.inr ⟨by rfl, rfl⟩) ?_ ?_
              rotate_left
              ·simp only [Act.put, qa, qb, qc, i64_w, i32_w]
               rfl
              refine pure_ (i := 31) (N := some 61) (v := undef) (a' := ?_) #[o,o,o,o,o,o,o,o,o,o,o,o,o,o,o,o,o,o,o,o,o,o,o,o,o,o,o,o,o,o,o,o,z,z,z,z,z,z,z,z] rfl rfl (any_of HT_.out (by kernel_rfl)) (fun _ _ _ h => h) (Or.inr ⟨by rfl, rfl⟩) ?_ ?_
              rotate_left
              ·simp only [Act.put, qa, qb, qc, i64_w, i32_w]
               rfl
              refine pure_ (i := 32) (N := some 62) (v := undef) (a' := ?_) #[o,o,o,o,o,o,o,o,o,o,o,o,o,o,o,o,o,o,o,o,o,o,o,o,o,o,o,o,o,o,o,o,o,z,z,z,z,z,z,z] rfl rfl (any_of HT_.out (by kernel_rfl)) (fun _ _ _ h => h) (Or.inr ⟨by rfl, rfl⟩) ?_ ?_
              rotate_left
              ·simp only [Act.put, qa, qb, qc, i64_w, i32_w]
               rfl
              refine pure_ (i := 33) (N := some 63) (v := undef) (a' := ?_) #[o,o,o,o,o,o,o,o,o,o,o,o,o,o,o,o,o,o,o,o,o,o,o,o,o,o,o,o,o,o,o,o,o,o,z,z,z,z,z,z] rfl rfl (any_of HT_.out (by kernel_rfl)) (fun _ _ _ h => h) (Or.inr ⟨by rfl, rfl⟩) ?_ ?_
              rotate_left
              ·simp only [Act.put, qa, qb, qc, i64_w, i32_w]
               rfl
              refine pure_ (i := 34) (N := some 64) (v := undef) (a' := ?_) #[o,o,o,o,o,o,o,o,o,o,o,o,o,o,o,o,o,o,o,o,o,o,o,o,o,o,o,o,o,o,o,o,o,o,o,z,z,z,z,z] rfl rfl (any_of HT_.out (by kernel_rfl)) (fun _ _ _ h => h) (Or.inr ⟨by rfl, rfl⟩) ?_ ?_
              rotate_left
              ·simp only [Act.put, qa, qb, qc, i64_w, i32_w]
               rfl
              refine pure_ (i := 35) (N := some 65) (v := undef) (a' := ?_) #[o,o,o,o,o,o,o,o,o,o,o,o,o,o,o,o,o,o,o,o,o,o,o,o,o,o,o,o,o,o,o,o,o,o,o,o,z,z,z,z] rfl rfl (any_of HT_.out (by kernel_rfl)) (fun _ _ _ h => h) (Or.inr ⟨by rfl, rfl⟩) ?_ ?_
              rotate_left
              ·simp only [Act.put, qa, qb, qc, i64_w, i32_w]
               rfl
              refine pure_ (i := 36) (N := some 66) (v := undef) (a' := ?_) #[o,o,o,o,o,o,o,o,o,o,o,o,o,o,o,o,o,o,o,o,o,o,o,o,o,o,o,o,o,o,o,o,o,o,o,o,o,z,z,z] rfl rfl (any_of HT_.out (by kernel_rfl)) (fun _ _ _ h => h) (Or.inr ⟨by rfl, rfl⟩) ?_ ?_
              rotate_left
              ·simp only [Act.put, qa, qb, qc, i64_w, i32_w]
               rfl
              refine pure_ (i := 37) (N := some 67) (v := undef) (a' := ?_) #[o,o,o,o,o,o,o,o,o,o,o,o,o,o,o,o,o,o,o,o,o,o,o,o,o,o,o,o,o,o,o,o,o,o,o,o,o,o,z,z] rfl rfl (any_of HT_.out (by kernel_rfl)) (fun _ _ _ h => h) (Or.inr ⟨by rfl, rfl⟩) ?_ ?_
              rotate_left
              ·simp only [Act.put, qa, qb, qc, i64_w, i32_w]
               rfl
              refine pure_ (i := 38) (N := some 68) (v := undef) (a' := ?_) #[o,o,o,o,o,o,o,o,o,o,o,o,o,o,o,o,o,o,o,o,o,o,o,o,o,o,o,o,o,o,o,o,o,o,o,o,o,o,o,z] rfl rfl (any_of HT_.out (by kernel_rfl)) (fun _ _ _ h => h) (Or.inr ⟨by rfl, rfl⟩) ?_ ?_
              rotate_left
              ·simp only [Act.put, qa, qb, qc, i64_w, i32_w]
               rfl
              refine pure_ (i := 39) (N := some 69) (v := ?_) (a' := ?_) #[o,o,o,o,o,o,o,o,o,o,o,o,o,o,o,o,o,o,o,o,o,o,o,o,o,o,o,o,o,o,o,o,o,o,o,o,o,o,o,o] rfl rfl (any_of HT_.out (by kernel_rfl)) (fun _ _ _ h => h) (Or.inl ⟨by rfl, ?_⟩) ?_ ?_
              rotate_left
              ·intro w'
               go_simp
               with_reducible rfl
              rotate_left
              ·simp only [Act.put, qa, qb, qc, i64_w, i32_w]
               rfl
              refine done_ (done_of HT_.out (by kernel_rfl)) ?_
              try go_wp2
              go_roundg k2
              case measure => have := HJ2.out; have := HK2.out; omega
              case rel => exact ⟨(wrap64 (x25_2 + 1)), (by first | rfl | (simp; done) | (simp [*]; done)), H', ⟨by have := HJ2.out; have := HK2.out; omega⟩, ⟨sB HB.out⟩⟩
            ·rw [if_neg c22] at H
             exact absurd H (by simp)
           ·rw [if_neg c21] at H
            exact absurd H (by simp)
          ·replace c20 := Bool.eq_false_iff.mpr c20
           subst c20
           have H1 : (impl_IsShadowed.l0 k2 l0 a1 l0 (l0.length : Int) (wrap64 (x25_2 + 1))) = some r := by rw [if_neg (show ¬ (false = true) by decide)] at H; exact H
           clear H
           have H := H1
           clear H1
           have H' := Aside0.mk H
           clear H
           have p320 : 0 ≤ (x25_2 : Int) := of_decide_eq_true (by first | (with_reducible assumption) | assumption)
           have q320 : x25_2 < (l0.length : Int) := of_decide_eq_true (by first | (with_reducible assumption) | assumption)
           obtain ⟨ad320, e320, hx320_0, hx320_1, hx320_2, hx320_3, hx320_4, hx320_5, hx320_6, hx320_7⟩ := at_T84 HR0.out x25_2 p320 q320
           cases e320
           replace hx320_0 := hc_ HB hx320_0
           replace hx320_1 := hc_ HB hx320_1
           replace hx320_2 := hc_ HB hx320_2
           replace hx320_3 := hc_ HB hx320_3
           replace hx320_4 := hc_ HB hx320_4
           replace hx320_5 := hc_ HB hx320_5
           replace hx320_6 := hc_ HB hx320_6
           replace hx320_7 := hc_ HB hx320_7
           replace p320 := eq_true p320
           replace q320 := eq_true q320
           try go_wp2_with (first | ((with_reducible refine gate_dst (N := 6) rfl ?_); (try (refine gate_guard (by rfl) ?_; dsimp only)); refine box_event ?hg (N := 6) ?hd (cs := #[.int .i64 0, .int .i64 0, .int .i64 0, .int .i64 0, .int .i64 0, .int .i64 0, .int .i64 0, .int .i64 0]) (t := 84) ?hr ?_; (case hd => rfl); (case hg => rfl); (case hr => first | (go_simp; done) | (go_simp; rfl)); intro gb321 hg w63 hbox hb; have q_ := hbx_ (sB HB.out) hg hb; have n0_ := q_.1; have n1_ := am (hbox); have n2_ := q_.2; have n3_ := n2_; clear HB; have HB := n0_; have BK321 := n1_; have GW321 := n2_; have GE321 := n3_; clear n0_ n1_ n2_ n3_ hb hbox hg; obtain ⟨hcz64_0, hcz64_1, hcz64_2, hcz64_3, hcz64_4, hcz64_5, hcz64_6, hcz64_7, hfz64_0, hfz64_1, hfz64_2, hfz64_3, hfz64_4, hfz64_5, hfz64_6, hfz64_7⟩ := blk8 BK321.out))
           have n0_ : Aside0 (((((((((w63.setCell ⟨gb321, 0, none⟩ (.int .i64 ((rd_T84 l0 x25_2).f0))).setCell ⟨gb321, 1, none⟩ (.int .i64 ((rd_T84 l0 x25_2).f1))).setCell ⟨gb321, 2, none⟩ (.int .i64 ((rd_T84 l0 x25_2).f2.f0))).setCell ⟨gb321, 3, none⟩ (.int .i64 ((rd_T84 l0 x25_2).f2.f1))).setCell ⟨gb321, 4, none⟩ (.int .i64 ((rd_T84 l0 x25_2).f3))).setCell ⟨gb321, 5, none⟩ (.int .i64 ((rd_T84 l0 x25_2).f4))).setCell ⟨gb321, 6, none⟩ (.int .i64 ((rd_T84 l0 x25_2).f5.f0))).setCell ⟨gb321, 7, none⟩ (.int .i64 ((rd_T84 l0 x25_2).f5.f1))).heap[gb321]? = some (.cells #[.int .i64 ((rd_T84 l0 x25_2).f0), .int .i64 ((rd_T84 l0 x25_2).f1), .int .i64 ((rd_T84 l0 x25_2).f2.f0), .int .i64 ((rd_T84 l0 x25_2).f2.f1), .int .i64 ((rd_T84 l0 x25_2).f3), .int .i64 ((rd_T84 l0 x25_2).f4), .int .i64 ((rd_T84 l0 x25_2).f5.f0), .int .i64 ((rd_T84 l0 x25_2).f5.f1)] 84 (0, 0))) := ⟨by refine bB ?_; refine blk_put (cs := #[.int .i64 ((rd_T84 l0 x25_2).f0), .int .i64 ((rd_T84 l0 x25_2).f1), .int .i64 ((rd_T84 l0 x25_2).f2.f0), .int .i64 ((rd_T84 l0 x25_2).f2.f1), .int .i64 ((rd_T84 l0 x25_2).f3), .int .i64 ((rd_T84 l0 x25_2).f4), .int .i64 ((rd_T84 l0 x25_2).f5.f0), .int .i64 0]) ?_ 7 _ rfl; refine bB ?_; refine blk_put (cs := #[.int .i64 ((rd_T84 l0 x25_2).f0), .int .i64 ((rd_T84 l0 x25_2).f1), .int .i64 ((rd_T84 l0 x25_2).f2.f0), .int .i64 ((rd_T84 l0 x25_2).f2.f1), .int .i64 ((rd_T84 l0 x25_2).f3), .int .i64 ((rd_T84 l0 x25_2).f4), .int .i64 0, .int .i64 0]) ?_ 6 _ rfl; refine bB ?_; refine blk_put (cs := #[.int .i64 ((rd_T84 l0 x25_2).f0), .int .i64 ((rd_T84 l0 x25_2).f1), .int .i64 ((rd_T84 l0 x25_2).f2.f0), .int .i64 ((rd_T84 l0 x25_2).f2.f1), .int .i64 ((rd_T84 l0 x25_2).f3), .int .i64 0, .int .i64 0, .int .i64 0]) ?_ 5 _ rfl; refine bB ?_; refine blk_put (cs := #[.int .i64 ((rd_T84 l0 x25_2).f0), .int .i64 ((rd_T84 l0 x25_2).f1), .int .i64 ((rd_T84 l0 x25_2).f2.f0), .int .i64 ((rd_T84 l0 x25_2).f2.f1), .int .i64 0, .int .i64 0, .int .i64 0, .int .i64 0]) ?_ 4 _ rfl; refine bB ?_; refine blk_put (cs := #[.int .i64 ((rd_T84 l0 x25_2).f0), .int .i64 ((rd_T84 l0 x25_2).f1), .int .i64 ((rd_T84 l0 x25_2).f2.f0), .int .i64 0, .int .i64 0, .int .i64 0, .int .i64 0, .int .i64 0]) ?_ 3 _ rfl; refine bB ?_; refine blk_put (cs := #[.int .i64 ((rd_T84 l0 x25_2).f0), .int .i64 ((rd_T84 l0 x25_2).f1), .int .i64 0, .int .i64 0, .int .i64 0, .int .i64 0, .int .i64 0, .int .i64 0]) ?_ 2 _ rfl; refine bB ?_; refine blk_put (cs := #[.int .i64 ((rd_T84 l0 x25_2).f0), .int .i64 0, .int .i64 0, .int .i64 0, .int .i64 0, .int .i64 0, .int .i64 0, .int .i64 0]) ?_ 1 _ rfl; refine bB ?_; refine blk_put (cs := #[.int .i64 0, .int .i64 0, .int .i64 0, .int .i64 0, .int .i64 0, .int .i64 0, .int .i64 0, .int .i64 0]) ?_ 0 _ rfl; refine bB ?_; exact BK321.out⟩
           have n1_ : Aside0 (Below w.heap.size w ((((((((w63.setCell ⟨gb321, 0, none⟩ (.int .i64 ((rd_T84 l0 x25_2).f0))).setCell ⟨gb321, 1, none⟩ (.int .i64 ((rd_T84 l0 x25_2).f1))).setCell ⟨gb321, 2, none⟩ (.int .i64 ((rd_T84 l0 x25_2).f2.f0))).setCell ⟨gb321, 3, none⟩ (.int .i64 ((rd_T84 l0 x25_2).f2.f1))).setCell ⟨gb321, 4, none⟩ (.int .i64 ((rd_T84 l0 x25_2).f3))).setCell ⟨gb321, 5, none⟩ (.int .i64 ((rd_T84 l0 x25_2).f4))).setCell ⟨gb321, 6, none⟩ (.int .i64 ((rd_T84 l0 x25_2).f5.f0))).setCell ⟨gb321, 7, none⟩ (.int .i64 ((rd_T84 l0 x25_2).f5.f1)))) := ⟨sB HB.out⟩
           (try clear BK321)
           (try clear HB)
           generalize ((((((((w63.setCell ⟨gb321, 0, none⟩ (.int .i64 ((rd_T84 l0 x25_2).f0))).setCell ⟨gb321, 1, none⟩ (.int .i64 ((rd_T84 l0 x25_2).f1))).setCell ⟨gb321, 2, none⟩ (.int .i64 ((rd_T84 l0 x25_2).f2.f0))).setCell ⟨gb321, 3, none⟩ (.int .i64 ((rd_T84 l0 x25_2).f2.f1))).setCell ⟨gb321, 4, none⟩ (.int .i64 ((rd_T84 l0 x25_2).f3))).setCell ⟨gb321, 5, none⟩ (.int .i64 ((rd_T84 l0 x25_2).f4))).setCell ⟨gb321, 6, none⟩ (.int .i64 ((rd_T84 l0 x25_2).f5.f0))).setCell ⟨gb321, 7, none⟩ (.int .i64 ((rd_T84 l0 x25_2).f5.f1))) = w65 at n0_ n1_ ⊢
           have BK321 := n0_
           have HB := n1_
           clear n0_ n1_
           replace BK321 := am (blk_drew BK321.out)
           replace HB := am (below_drew1 HB.out)
           refine start_ (n := 40) (S := fun w' => w'.cell? ⟨gb321, 0, none⟩ = some (.int .i64 ((rd_T84 l0 x25_2).f0)) ∧ w'.cell? ⟨gb321, 1, none⟩ = some (.int .i64 ((rd_T84 l0 x25_2).f1)) ∧ w'.cell? ⟨gb321, 2, none⟩ = some (.int .i64 ((rd_T84 l0 x25_2).f2.f0)) ∧ w'.cell? ⟨gb321, 3, none⟩ = some (.int .i64 ((rd_T84 l0 x25_2).f2.f1)) ∧ w'.cell? ⟨gb321, 4, none⟩ = some (.int .i64 ((rd_T84 l0 x25_2).f3)) ∧ w'.cell? ⟨gb321, 5, none⟩ = some (.int .i64 ((rd_T84 l0 x25_2).f4)) ∧ w'.cell? ⟨gb321, 6, none⟩ = some (.int .i64 ((rd_T84 l0 x25_2).f5.f0)) ∧ w'.cell? ⟨gb321, 7, none⟩ = some (.int .i64 ((rd_T84 l0 x25_2).f5.f1))) (ds := []) #[z,z,z,z,z,z,z,z,z,z,z,z,z,z,z,z,z,z,z,z,z,z,z,z,z,z,z,z,z,z,z,z,z,z,z,z,z,z,z,z] (by kernel_rfl) rfl rfl ⟨(blk_cell BK321.out 0).trans rfl, (blk_cell BK321.out 1).trans rfl, (blk_cell BK321.out 2).trans rfl, (blk_cell BK321.out 3).trans rfl, (blk_cell BK321.out 4).trans rfl, (blk_cell BK321.out 5).trans rfl, (blk_cell BK321.out 6).trans rfl, (blk_cell BK321.out 7).trans rfl⟩ (fun hHeld => ?_); refine with_tabW impl_IsShadowed.tab6 impl_IsShadowed.bits6 (fun HT_ HW_ => ?_)
           generalize w65.drew = w66 at BK321 HB hHeld ⊢
           refine pure_ (i := 0) (N := some 30) (v := ?_) (a' := ?_) #[o,z,z,z,z,z,z,z,z,z,z,z,z,z,z,z,z,z,z,z,z,z,z,z,z,z,z,z,z,z,z,z,z,z,z,z,z,z,z,z] rfl rfl (any_of HT_.out (by kernel_rfl)) (fun _ _ _ h => h) (Or.inl ⟨by rfl, ?_⟩) ?_ ?_
           rotate_left
           ·intro w'
            go_simp
            with_reducible rfl
           rotate_left
           ·simp only [Act.put, qa, qb, qc, i64_w, i32_w]
            rfl
           refine pure_ (i := 1) (N := some 31) (v := ?_) (a' := ?_) #[o,o,z,z,z,z,z,z,z,z,z,z,z,z,z,z,z,z,z,z,z,z,z,z,z,z,z,z,z,z,z,z,z,z,z,z,z,z,z,z] rfl rfl (any_of HT_.out (by kernel_rfl)) (fun _ _ _ h => h) (Or.inl ⟨by rfl, ?_⟩) ?_ ?_
           rotate_left
           ·intro w'
            go_simp
            with_reducible rfl
           rotate_left
           ·simp only [Act.put, qa, qb, qc, i64_w, i32_w]
            rfl
           refine pure_ (i := 2) (N := some 32) (v := ?_) (a' := ?_) #[o,o,o,z,z,z,z,z,z,z,z,z,z,z,z,z,z,z,z,z,z,z,z,z,z,z,z,z,z,z,z,z,z,z,z,z,z,z,z,z] rfl rfl (any_of HT_.out (by kernel_rfl)) (fun _ _ _ h => h) (Or.inl ⟨by rfl, ?_⟩) ?_ ?_
           rotate_left
           ·intro w'
            go_simp
            with_reducible rfl
           rotate_left
           ·simp only [Act.put, qa, qb, qc, i64_w, i32_w]
            rfl
           refine pure_ (i := 3) (N := some 33) (v := ?_) (a' := ?_) #[o,o,o,o,z,z,z,z,z,z,z,z,z,z,z,z,z,z,z,z,z,z,z,z,z,z,z,z,z,z,z,z,z,z,z,z,z,z,z,z] rfl rfl (any_of HT_.out (by kernel_rfl)) (fun _ _ _ h => h) (Or.inl ⟨by rfl, ?_⟩) ?_ ?_
           rotate_left
           ·intro w'
            go_simp
            with_reducible rfl
           rotate_left
           ·simp only [Act.put, qa, qb, qc, i64_w, i32_w]
            rfl
           refine take_ (i := 4) (N := some 34) (v := ?_) (a' := ?_) #[o,o,o,o,o,z,z,z,z,z,z,z,z,z,z,z,z,z,z,z,z,z,z,z,z,z,z,z,z,z,z,z,z,z,z,z,z,z,z,z] rfl rfl (take_ofW HT_.out HW_.out (by kernel_rfl)) (fun _ _ _ h => h) (Or.inl ⟨by rfl, ?_⟩) hHeld ?_ ?_
           rotate_left
           ·rintro w' ⟨s0, s1, s2, s3, s4, s5, s6, s7⟩
            go_simp
            with_reducible rfl
           rotate_left
           ·simp only [Act.put, qa, qb, qc, i64_w, i32_w]
            rfl
           refine one_ (i := 5) (N := some 35) #[o,o,o,o,o,o,z,z,z,z,z,z,z,z,z,z,z,z,z,z,z,z,z,z,z,z,z,z,z,z,z,z,z,z,z,z,z,z,z,z] rfl rfl (one_of HT_.out (by kernel_rfl)) (by decide) (fun K hK => ?_)
           refine goes_ Try.func56 (by kernel_rfl) rfl #[.agg #[.int .i64 ((rd_T84 l0 x25_2).f0), .int .i64 ((rd_T84 l0 x25_2).f1), .int .i64 ((rd_T84 l0 x25_2).f2.f0), .int .i64 ((rd_T84 l0 x25_2).f2.f1), .int .i64 ((rd_T84 l0 x25_2).f3), .int .i64 ((rd_T84 l0 x25_2).f4), .int .i64 ((rd_T84 l0 x25_2).f5.f0), .int .i64 ((rd_T84 l0 x25_2).f5.f1)]] (by rfl) rfl rfl (by (try simp only [List.map_toArray, List.map_cons, List.map_nil]); first | done | rfl | (simp only [List.length_drop, List.length_take]; rfl)) ?_
           with_reducible refine (impl_IsRule.calls k2 ((rd_T84 l0 x25_2).f0) ((rd_T84 l0 x25_2).f1) ((rd_T84 l0 x25_2).f2.f0) ((rd_T84 l0 x25_2).f2.f1) ((rd_T84 l0 x25_2).f3) ((rd_T84 l0 x25_2).f4) ((rd_T84 l0 x25_2).f5.f0) ((rd_T84 l0 x25_2).f5.f1) false _ A19.out).mono ?_
           rintro e w67 ⟨rfl, hb⟩
           refine ⟨_, rfl, ?_⟩
           replace BK321 := am (blk_below (bB BK321.out) hb)
           replace HB := am (below_step (sB HB.out) hb)
           (try clear hb)
           (try clear hb2)
           (try clear hk)
           (try clear hi)
           refine hK.out _ _ ⟨(blk_cell BK321.out 0).trans rfl, (blk_cell BK321.out 1).trans rfl, (blk_cell BK321.out 2).trans rfl, (blk_cell BK321.out 3).trans rfl, (blk_cell BK321.out 4).trans rfl, (blk_cell BK321.out 5).trans rfl, (blk_cell BK321.out 6).trans rfl, (blk_cell BK321.out 7).trans rfl⟩ (fun hHeld => ?_)
           clear hK K
           refine norm_ (a' := ?_) ?_ ?_
           rotate_left
           ·show Act.put _ (some 35) _ = _
            simp only [Act.put, qa, qb, qc, i64_w, i32_w]
            rfl
           refine pure_ (i := 6) (N := some 36) (v := ?_) (a' := ?_) #[o,o,o,o,o,o,o,z,z,z,z,z,z,z,z,z,z,z,z,z,z,z,z,z,z,z,z,z,z,z,z,z,z,z,z,z,z,z,z,z] rfl rfl (any_of HT_.out (by kernel_rfl)) (fun _ _ _ h => h) (Or.inl ⟨by rfl, ?_⟩) ?_ ?_
           rotate_left
           ·intro w'
            go_simp
            with_reducible rfl
           rotate_left
           ·simp only [Act.put, qa, qb, qc, i64_w, i32_w]
            rfl
           refine pure_ (i := 7) (N := some 37) (v := ?_) (a' := ?_) #[o,o,o,o,o,o,o,o,z,z,z,z,z,z,z,z,z,z,z,z,z,z,z,z,z,z,z,z,z,z,z,z,z,z,z,z,z,z,z,z] rfl rfl (any_of HT_.out (by kernel_rfl)) (fun _ _ _ h => h) (Or.inl ⟨by rfl, ?_⟩) ?_ ?_
           rotate_left
           ·intro w'
            go_simp
            with_reducible rfl
           rotate_left
           ·simp only [Act.put, qa, qb, qc, i64_w, i32_w]
            rfl
           refine pure_ (i := 8) (N := some 38) (v := undef) (a' := ?_) #[o,o,o,o,o,o,o,o,o,z,z,z,z,z,z,z,z,z,z,z,z,z,z,z,z,z,z,z,z,z,z,z,z,z,z,z,z,z,z,z] rfl rfl (any_of HT_.out (by kernel_rfl)) (fun _ _ _ h => h) (Or.inr ⟨by rfl, rfl⟩) ?_ ?_
           rotate_left
           ·simp only [Act.put, qa, qb, qc, i64_w, i32_w]
            rfl
           refine pure_ (i := 9) (N := some 39) (v := undef) (a' := ?_) #[o,o,o,o,o,o,o,o,o,o,z,z,z,z,z,z,z,z,z,z,z,z,z,z,z,z,z,z,z,z,z,z,z,z,z,z,z,z,z,z] rfl rfl (any_of HT_.out (by kernel_rfl)) (fun _ _ _ h => h) (Or.inr ⟨by rfl, rfl⟩) ?_ ?_
           rotate_left
           ·simp only [Act.put, qa, qb, qc, i64_w, i32_w]
            rfl
           refine pure_ (i := 10) (N := some 40) (v := undef) (a' := ?_) #[o,o,o,o,o,o,o,o,o,o,o,z,z,z,z,z,z,z,z,z,z,z,z,z,z,z,z,z,z,z,z,z,z,z,z,z,z,z,z,z] rfl rfl (any_of HT_.out (by kernel_rfl)) (fun _ _ _ h => h) (Or.inr ⟨by rfl, rfl⟩) ?_ ?_
           rotate_left
           ·simp only [Act.put, qa, qb, qc, i64_w, i32_w]
            rfl
           refine pure_ (i := 11) (N := some 41) (v := undef) (a' := ?_) #[o,o,o,o,o,o,o,o,o,o,o,o,z,z,z,z,z,z,z,z,z,z,z,z,z,z,z,z,z,z,z,z,z,z,z,z,z,z,z,z] rfl rfl (any_of HT_.out (by kernel_rfl)) (fun _ _ _ h => h) (Or.inr ⟨by rfl, rfl⟩) ?_ ?_
           rotate_left
           ·simp only [Act.put, qa, qb, qc, i64_w, i32_w]
            rfl
           refine pure_ (i := 12) (N := some 42) (v := undef) (a' := ?_) #[o,o,o,o,o,o,o,o,o,o,o,o,o,z,z,z,z,z,z,z,z,z,z,z,z,z,z,z,z,z,z,z,z,z,z,z,z,z,z,z] rfl rfl (any_of HT_.out (by kernel_rfl)) (fun _ _ _ h => h) (Or.inr ⟨by rfl, rfl⟩) ?_ ?_
           rotate_left
           ·simp only [Act.put, qa, qb, qc, i64_w, i32_w]
            rfl
           refine pure_ (i := 13) (N := some 43) (v := undef) (a' := ?_) #[o,o,o,o,o,o,o,o,o,o,o,o,o,o,z,z,z,z,z,z,z,z,z,z,z,z,z,z,z,z,z,z,z,z,z,z,z,z,z,z] rfl rfl (any_of HT_.out (by kernel_rfl)) (fun _ _ _ h => h) (Or.inr ⟨by rfl, rfl⟩) ?_ ?_
           rotate_left
           ·simp only [Act.put, qa, qb, qc, i64_w, i32_w]
            rfl
           refine pure_ (i := 14) (N := some 44) (v := ?_) (a' := ?_) #[o,o,o,o,o,o,o,o,o,o,o,o,o,o,o,z,z,z,z,z,z,z,z,z,z,z,z,z,z,z,z,z,z,z,z,z,z,z,z,z] rfl rfl (any_of HT_.out (by kernel_rfl)) (fun _ _ _ h => h) (Or.inl ⟨by rfl, ?_⟩) ?_ ?_
           rotate_left
           ·intro w'
            go_simp
            with_reducible rfl
           rotate_left
           ·simp only [Act.put, qa, qb, qc, i64_w, i32_w]
            rfl
           refine pure_ (i := 15) (N := some 45) (v := ?_) (a' := ?_) #[o,o,o,o,o,o,o,o,o,o,o,o,o,o,o,o,z,z,z,z,z,z,z,z,z,z,z,z,z,z,z,z,z,z,z,z,z,z,z,z] rfl rfl (any_of HT_.out (by kernel_rfl)) (fun _ _ _ h => h) (Or.inl ⟨by rfl, ?_⟩) ?_ ?_
           rotate_left
           ·intro w'
            go_simp
            with_reducible rfl
           rotate_left
           ·simp only [Act.put, qa, qb, qc, i64_w, i32_w]
            rfl
           refine pure_ (i := 16) (N := some 46) (v := undef) (a' := ?_) #[o,o,o,o,o,o,o,o,o,o,o,o,o,o,o,o,o,z,z,z,z,z,z,z,z,z,z,z,z,z,z,z,z,z,z,z,z,z,z,z] rfl rfl (any_of HT_.out (by kernel_rfl)) (fun _ _ _ h => h) (Or.inr ⟨by rfl, rfl⟩) ?_ ?_
           rotate_left
           ·simp only [Act.put, qa, qb, qc, i64_w, i32_w]
            rfl
           refine pure_ (i := 17) (N := some 47) (v := undef) (a' := ?_) #[o,o,o,o,o,o,o,o,o,o,o,o,o,o,o,o,o,o,z,z,z,z,z,z,z,z,z,z,z,z,z,z,z,z,z,z,z,z,z,z] rfl rfl (any_of HT_.out (by kernel_rfl)) (fun _ _ _ h => h) (Or.inr ⟨by rfl, rfl⟩) ?_ ?_
           rotate_left
           ·simp only [Act.put, qa, qb, qc, i64_w, i32_w]
            rfl
           refine pure_ (i := 18) (N := some 48) (v := undef) (a' := ?_) #[o,o,o,o,o,o,o,o,o,o,o,o,o,o,o,o,o,o,o,z,z,z,z,z,z,z,z,z,z,z,z,z,z,z,z,z,z,z,z,z] rfl rfl (any_of HT_.out (by kernel_rfl)) (fun _ _ _ h => h) (Or.inr ⟨by rfl, rfl⟩) ?_ ?_
           rotate_left
           ·simp only [Act.put, qa, qb, qc, i64_w, i32_w]
            rfl
           refine pure_ (i := 19) (N := some 49) (v := undef) (a' := ?_) #[o,o,o,o,o,o,o,o,o,o,o,o,o,o,o,o,o,o,o,o,z,z,z,z,z,z,z,z,z,z,z,z,z,z,z,z,z,z,z,z] rfl rfl (any_of HT_.out (by kernel_rfl)) (fun _ _ _ h => h) (Or.inr ⟨by rfl, rfl⟩) ?_ ?_
           rotate_left
           ·simp only [Act.put, qa, qb, qc, i64_w, i32_w]
            rfl
           refine pure_ (i := 20) (N := some 50) (v := undef) (a' := ?_) #[o,o,o,o,o,o,o,o,o,o,o,o,o,o,o,o,o,o,o,o,o,z,z,z,z,z,z,z,z,z,z,z,z,z,z,z,z,z,z,z] rfl rfl (any_of HT_.out (by kernel_rfl)) (fun _ _ _ h => h) (Or.inr ⟨by rfl, rfl⟩) ?_ ?_
           rotate_left
           ·simp only [Act.put, qa, qb, qc, i64_w, i32_w]
            rfl
           refine pure_ (i := 21) (N := some 51) (v := undef) (a' := ?_) #[o,o,o,o,o,o,o,o,o,o,o,o,o,o,o,o,o,o,o,o,o,o,z,z,z,z,z,z,z,z,z,z,z,z,z,z,z,z,z,z] rfl rfl (any_of HT_.out (by kernel_rfl)) (fun _ _ _ h => h) (Or.inr ⟨by rfl, rfl⟩) ?_ ?_
           rotate_left
           ·simp only [Act.put, qa, qb, qc, i64_w, i32_w]
            rfl
           refine pure_ (i := 22) (N := some 52) (v := undef) (a' := ?_) #[o,o,o,o,o,o,o,o,o,o,o,o,o,o,o,o,o,o,o,o,o,o,o,z,z,z,z,z,z,z,z,z,z,z,z,z,z,z,z,z] rfl rfl (any_of HT_.out (by kernel_rfl)) (fun _ _ _ h => h) (Or.inr ⟨by rfl, rfl⟩) ?_ ?_
           rotate_left
           ·simp only [Act.put, qa, qb, qc, i64_w, i32_w]
            rfl
           refine pure_ (i := 23) (N := some 53) (v := undef) (a' := ?_) #[o,o,o,o,o,o,o,o,o,o,o,o,o,o,o,o,o,o,o,o,o,o,o,o,z,z,z,z,z,z,z,z,z,z,z,z,z,z,z,z] rfl rfl (any_of HT_.out (by kernel_rfl)) (fun _ _ _ h => h) (Or.inr ⟨by rfl, rfl⟩) ?_ ?_
           rotate_left
           ·simp only [Act.put, qa, qb, qc, i64_w, i32_w]
            rfl
           refine pure_ (i := 24) (N := some 54) (v := ?_) (a' := ?_) #[o,o,o,o,o,o,o,o,o,o,o,o,o,o,o,o,o,o,o,o,o,o,o,o,o,z,z,z,z,z,z,z,z,z,z,z,z,z,z,z] rfl rfl (any_of HT_.out (by kernel_rfl)) (fun _ _ _ h => h) (Or.inl ⟨by rfl, ?_⟩) ?_ ?_
           rotate_left
           ·intro w'
            go_simp
            with_reducible rfl
           rotate_left
           ·simp only [Act.put, qa, qb, qc, i64_w, i32_w]
            rfl
           refine pure_ (i := 25) (N := some 55) (v := ?_) (a' := ?_) #[o,o,o,o,o,o,o,o,o,o,o,o,o,o,o,o,o,o,o,o,o,o,o,o,o,o,z,z,z,z,z,z,z,z,z,z,z,z,z,z] rfl rfl (any_of HT_.out (by kernel_rfl)) (fun _ _ _ h => h) (Or.inl ⟨by rfl, ?_⟩) ?_ ?_
           rotate_left
           ·intro w'
            go_simp
            with_reducible rfl
           rotate_left
           ·simp only [Act.put, qa, qb, qc, i64_w, i32_w]
            rfl
           refine pure_ (i := 26) (N := some 56) (v := undef) (a' := ?_) #[o,o,o,o,o,o,o,o,o,o,o,o,o,o,o,o,o,o,o,o,o,o,o,o,o,o,o,z,z,z,z,z,z,z,z,z,z,z,z,z] rfl rfl (any_of HT_.out (by kernel_rfl)) (fun _ _ _ h => h) (Or.inr ⟨by rfl, rfl⟩) ?_ ?_
           rotate_left
           ·simp only [Act.put, qa, qb, qc, i64_w, i32_w]
            rfl
           refine pure_ (i := 27) (N := some 57) (v := undef) (a' := ?_) #[o,o,o,o,o,o,o,o,o,o,o,o,o,o,o,o,o,o,o,o,o,o,o,o,o,o,o,o,z,z,z,z,z,z,z,z,z,z,z,z] rfl rfl (any_of HT_.out (by kernel_rfl)) (fun _ _ _ h => h) (Or.inr ⟨by rfl, rfl⟩) ?_ ?_
           rotate_left
           ·simp only [Act.put, qa, qb, qc, i64_w, i32_w]
            rfl
           refine pure_ (i := 28) (N := some 58) (v := undef) (a' := ?_) #[o,o,o,o,o,o,o,o,o,o,o,o,o,o,o,o,o,o,o,o,o,o,o,o,o,o,o,o,o,z,z,z,z,z,z,z,z,z,z,z] rfl rfl (any_of HT_.out (by kernel_rfl)) (fun _ _ _ h => h) (Or.inr ⟨by rfl, rfl⟩) ?_ ?_
           rotate_left
           ·simp only [Act.put, qa, qb, qc, i64_w, i32_w]
            rfl
           refine pure_ (i := 29) (N := some 59) (v := undef) (a' := ?_) #[o,o,o,o,o,o,o,o,o,o,o,o,o,o,o,o,o,o,o,o,o,o,o,o,o,o,o,o,o,o,z,z,z,z,z,z,z,z,z,z] rfl rfl (any_of HT_.out (by kernel_rfl)) (fun _ _ _ h => h) (Or.inr ⟨by rfl, rfl⟩) ?_ ?_
           rotate_left
           ·simp only [Act.put, qa, qb, qc, i64_w, i32_w]
            rfl
           refine pure_ (i := 30) (N := some 60) (v := undef) (a' := ?_) #[o,o,o,o,o,o,o,o,o,o,o,o,o,o,o,o,o,o,o,o,o,o,o,o,o,o,o,o,o,o,o,z,z,z,z,z,z,z,z,z] rfl rfl (any_of HT_.out (by kernel_rfl)) (fun _ _ _ h => h) (Or.inr ⟨by rfl, rfl⟩) ?_ ?_
           rotate_left
           ·simp only [Act.put, qa, qb, qc, i64_w, i32_w]
            rfl
           refine pure_ (i := 31) (N := some 61) (v := undef) (a' := ?_) #[o,o,o,o,o,o,o,o,o,o,o,o,o,o,o,o,o,o,o,o,o,o,o,o,o,o,o,o,o,o,o,o,z,z,z,z,z,z,z,z] rfl rfl (any_of HT_.out (by kernel_rfl)) (fun _ _ _ h => h) (Or.inr ⟨by rfl, rfl⟩) ?_ ?_
           rotate_left
           ·simp only [Act.put, qa, qb, qc, i64_w, i32_w]
            rfl
           refine pure_ (i := 32) (N := some 62) (v := undef) (a' := ?_) #[o,o,o,o,o,o,o,o,o,o,o,o,o,o,o,o,o,o,o,o,o,o,o,o,o,o,o,o,o,o,o,o,o,z,z,z,z,z,z,z] rfl rfl (any_of HT_.out (by kernel_rfl)) (fun _ _ _ h => h) (Or.inr ⟨by rfl, rfl⟩) ?_ ?_
           rotate_left
           ·simp only [Act.put, qa, qb, qc, i64_w, i32_w]
            rfl
           refine pure_ (i := 33) (N := some 63) (v := undef) (a' := ?_) #[o,o,o,o,o,o,o,o,o,o,o,o,o,o,o,o,o,o,o,o,o,o,o,o,o,o,o,o,o,o,o,o,o,o,z,z,z,z,z,z] rfl rfl (any_of HT_.out (by kernel_rfl)) (fun _ _ _ h => h) (Or.inr ⟨by rfl, rfl⟩) ?_ ?_
           rotate_left
           ·simp only [Act.put, qa, qb, qc, i64_w, i32_w]
            rfl
           refine pure_ (i := 34) (N := some 64) (v := undef) (a' := ?_) #[o,o,o,o,o,o,o,o,o,o,o,o,o,o,o,o,o,o,o,o,o,o,o,o,o,o,o,o,o,o,o,o,o,o,o,z,z,z,z,z] rfl rfl (any_of HT_.out (by kernel_rfl)) (fun _ _ _ h => h) (Or.inr ⟨by rfl, rfl⟩) ?_ ?_
           rotate_left
           ·simp only [Act.put, qa, qb, qc, i64_w, i32_w]
            rfl
           refine pure_ (i := 35) (N := some 65) (v := undef) (a' := ?_) #[o,o,o,o,o,o,o,o,o,o,o,o,o,o,o,o,o,o,o,o,o,o,o,o,o,o,o,o,o,o,o,o,o,o,o,o,z,z,z,z] rfl rfl (any_of HT_.out (by kernel_rfl)) (fun _ _ _ h => h) (Or.inr ⟨by rfl, rfl⟩) ?_ ?_
           rotate_left
           ·simp only [Act.put, qa, qb, qc, i64_w, i32_w]
            rfl
           refine pure_ (i := 36) (N := some 66) (v := undef) (a' := ?_) #[o,o,o,o,o,o,o,o,o,o,o,o,o,o,o,o,o,o,o,o,o,o,o,o,o,o,o,o,o,o,o,o,o,o,o,o,o,z,z,z] rfl rfl (any_of HT_.out (by kernel_rfl)) (fun _ _ _ h => h) (Or.inr ⟨by rfl, rfl⟩) ?_ ?_
           rotate_left
           ·simp only [Act.put, qa, qb, qc, i64_w, i32_w]
            rfl
           refine pure_ (i := 37) (N := some 67) (v := undef) (a' := ?_) #[o,o,o,o,o,o,o,o,o,o,o,o,o,o,o,o,o,o,o,o,o,o,o,o,o,o,o,o,o,o,o,o,o,o,o,o,o,o,z,z] rfl rfl (any_of HT_.out (by kernel_rfl)) (fun _ _ _ h => h) (Or.inr ⟨by rfl, rfl⟩) ?_ ?_
           rotate_left
           ·simp only [Act.put, qa, qb, qc, i64_w, i32_w]
            rfl
           refine pure_ (i := 38) (N := some 68) (v := undef) (a' := ?_) #[o,o,o,o,o,o,o,o,o,o,o,o,o,o,o,o,o,o,o,o,o,o,o,o,o,o,o,o,o,o,o,o,o,o,o,o,o,o,o,z] rfl rfl (any_of HT_.out (by kernel_rfl)) (fun _ _ _ h => h) (Or.inr ⟨by rfl, rfl⟩) ?_ ?_
           rotate_left
           ·simp only [Act.put, qa, qb, qc, i64_w, i32_w]
            rfl
           refine pure_ (i := 39) (N := some 69) (v := ?_) (a' := ?_) #[o,o,o,o,o,o,o,o,o,o,o,o,o,o,o,o,o,o,o,o,o,o,o,o,o,o,o,o,o,o,o,o,o,o,o,o,o,o,o,o] rfl rfl (any_of HT_.out (by kernel_rfl)) (fun _ _ _ h => h) (Or.inl ⟨by rfl, ?_⟩) ?_ ?_
           rotate_left
           ·intro w'
            go_simp
            with_reducible rfl
           rotate_left
           ·simp only [Act.put, qa, qb, qc, i64_w, i32_w]
            rfl
           refine done_ (done_of HT_.out (by kernel_rfl)) ?_
           try go_wp2
           go_roundg k2
           case measure => have := HJ2.out; have := HK2.out; omega
           case rel => exact ⟨(wrap64 (x25_2 + 1)), (by first | rfl | (simp; done) | (simp [*]; done)), H', ⟨by have := HJ2.out; have := HK2.out; omega⟩, ⟨sB HB.out⟩⟩
        ·rw [if_neg c13] at H
         exact absurd H (by simp)
       ·rw [if_neg c12] at H
        exact absurd H (by simp)
      ·rw [if_neg c11] at H
       have c11b0 : decide (x25_2 < (l0.length : Int)) = false := decide_eq_false c11
       clear c11
       obtain rfl := Option.some.inj H
       go_wp2
       go_ret
       exact ⟨by first | rfl | (simp [errW_none, errW_some] <;> rfl) | (simp [*, errW_none, errW_some] <;> rfl), sB HB.out⟩

end Go.Proofs.Ytilneejgliglhaa.QS
