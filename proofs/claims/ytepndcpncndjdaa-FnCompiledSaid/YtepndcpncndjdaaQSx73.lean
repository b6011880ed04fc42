/- Go functions as Lean functions, each with its walk; printed by a program of this session (a scratch copy of print.py that follows nested field addresses and tells a law for the answer true). -/
import Derived.Test.YtepndcpncndjdaaQSx0
import Derived.Test.YtepndcpncndjdaaQSx17
import Derived.Test.YtepndcpncndjdaaQSx36
import Derived.Test.YtepndcpncndjdaaQSx59
import Derived.Test.YtepndcpncndjdaaQSx63
import Derived.Test.YtepndcpncndjdaaQSx65
import Derived.Test.YtepndcpncndjdaaQSx66
import Derived.Test.YtepndcpncndjdaaQSx68
import Derived.Test.YtepndcpncndjdaaQSxM1
import Derived.Test.YtepndcpncndjdaaQSxM3
namespace Go.Proofs.Ytepndcpncndjdaa.QS
open Go.RowKit Go.Proofs.YtepndcpncndjdaaW.PrintWords Go.Proofs.YtepndcpncndjdaaW.PrintLast Go.Proofs.YtepndcpncndjdaaW.PrintMore Go.Proofs.Ytepndcpncndjdaa.Short
attribute [local go_sem] max2_int min2_int max_two min_two max_three min_three max_four min_four   -- for this text's walks alone
set_option linter.unusedVariables false
set_option linter.unusedSimpArgs false

/-! ### laws_FnCompiled: function 3 -/
def laws_FnCompiled.j0 : Nat → List Int → List (S37) → Bool → List (S37) → List (List (S37)) → Option (Bool)
 | 0, _, _, _, _, _ => none
 | k + 1, x0, x3, x50, x648000, x648001 => if x50 = true then (some false) else ((spec_DrawEqualRules.f k x0).bind fun bt662 => ((impl_CountTable.f k x648000 x648001).bind fun t668 => ((impl_SortRules.f k x3).bind fun t669 => (if t668 = (t669.length : Int) then ((impl_LongestBucket.f k x648000 x648001).bind fun t672 => ((impl_CountTable.f k x648000 x648001).bind fun t673 => (if t672 ≤ t673 then ((impl_EqualRules.f k bt662.1 bt662.2).bind fun t674 => ((impl_EqualRules.f k bt662.2 bt662.1).bind fun t675 => (if (t674 == t675) = true then ((impl_EqualRules.f k bt662.1 bt662.1).bind fun t676 => (some t676)) else (some false)))) else (some false)))) else (some false)))))
def laws_FnCompiled.f (k : Nat) (l0 : List Int) : Option (Bool) := (laws_big.f l0).bind fun t633 => (if t633 = true then (some true) else ((spec_DrawDecideRule.f k l0).bind fun bt634 => ((impl_CompileRules.f k bt634.1).bind fun bt641 => ((impl_FastRule.f k bt641.1 bt641.2 bt634.2.1 bt634.2.2.1 bt634.2.2.2).bind fun bt648 => ((impl_DecideRule.f k bt634.1 bt634.2.1 bt634.2.2.1 bt634.2.2.2).bind fun t658 => (if (bt648.2.2.2.2.2.2.2.2 != (decide (t658 ≥ 0))) = true then (laws_FnCompiled.j0 k l0 bt634.1 true bt641.1 bt641.2) else (if bt648.2.2.2.2.2.2.2.2 = true then (if 0 ≤ t658 then (if t658 < (bt634.1.length : Int) then ((laws_sameRule.f bt648.1 bt648.2.1 bt648.2.2.1 bt648.2.2.2.1 bt648.2.2.2.2.1 bt648.2.2.2.2.2.1 bt648.2.2.2.2.2.2.1 bt648.2.2.2.2.2.2.2.1 ((rd_T37 bt634.1 t658).f0) ((rd_T37 bt634.1 t658).f1) ((rd_T37 bt634.1 t658).f2.f0) ((rd_T37 bt634.1 t658).f2.f1) ((rd_T37 bt634.1 t658).f3) ((rd_T37 bt634.1 t658).f4) ((rd_T37 bt634.1 t658).f5.f0) ((rd_T37 bt634.1 t658).f5.f1)).bind fun t660 => (if t660 = true then ((impl_Applies.f k bt648.1 bt648.2.1 bt648.2.2.1 bt648.2.2.2.1 bt648.2.2.2.2.1 bt648.2.2.2.2.2.1 bt648.2.2.2.2.2.2.1 bt648.2.2.2.2.2.2.2.1 bt634.2.1 bt634.2.2.1 bt634.2.2.2).bind fun t661 => (laws_FnCompiled.j0 k l0 bt634.1 (!t661) bt641.1 bt641.2)) else (laws_FnCompiled.j0 k l0 bt634.1 true bt641.1 bt641.2))) else (none)) else (none)) else (laws_FnCompiled.j0 k l0 bt634.1 false bt641.1 bt641.2))))))))
theorem laws_FnCompiled.mono_l : ∀ k, (∀ y0 y1 y2 y3 y4, LeO (laws_FnCompiled.j0 k y0 y1 y2 y3 y4) (laws_FnCompiled.j0 (k + 1) y0 y1 y2 y3 y4))
 | 0 => fun _ _ _ _ _ r h => by simp [laws_FnCompiled.j0] at h
 | k + 1 => by
  have ih0 := laws_FnCompiled.mono_l k
  ·intro y0 y1 y2 y3 y4
   unfold laws_FnCompiled.j0
   repeat' first
   | (with_reducible exact ih0 _ _ _ _ _)
   | (with_reducible exact impl_Applies.mono _ _ _ _ _ _ _ _ _ _ _ _)
   | (with_reducible exact impl_CompileRules.mono _ _)
   | (with_reducible exact impl_CountTable.mono _ _ _)
   | (with_reducible exact impl_DecideRule.mono _ _ _ _ _)
   | (with_reducible exact impl_EqualRules.mono _ _ _)
   | (with_reducible exact impl_FastRule.mono _ _ _ _ _ _)
   | (with_reducible exact impl_LongestBucket.mono _ _ _)
   | (with_reducible exact impl_SortRules.mono _ _)
   | (with_reducible exact spec_DrawDecideRule.mono _ _)
   | (with_reducible exact spec_DrawEqualRules.mono _ _)
   | (with_reducible exact LeO.refl _)
   | (with_reducible exact LeO.none _)
   | (with_reducible refine LeO.ite ?_ ?_)
   | (with_reducible refine LeO.bind ?_ (fun _ => ?_))
   | exact ih0 _ _ _ _ _
   | exact impl_Applies.mono _ _ _ _ _ _ _ _ _ _ _ _
   | exact impl_CompileRules.mono _ _
   | exact impl_CountTable.mono _ _ _
   | exact impl_DecideRule.mono _ _ _ _ _
   | exact impl_EqualRules.mono _ _ _
   | exact impl_FastRule.mono _ _ _ _ _ _
   | exact impl_LongestBucket.mono _ _ _
   | exact impl_SortRules.mono _ _
   | exact spec_DrawDecideRule.mono _ _
   | exact spec_DrawEqualRules.mono _ _
   | exact LeO.none _
   | refine LeO.ite ?_ ?_
   | refine LeO.bind ?_ (fun _ => ?_)
theorem laws_FnCompiled.mono : ∀ a0 k, LeO (laws_FnCompiled.f k a0) (laws_FnCompiled.f (k + 1) a0) := by
 intro a0 k
 have ih0 := laws_FnCompiled.mono_l k
 unfold laws_FnCompiled.f
 repeat' first
   | (with_reducible exact ih0 _ _ _ _ _)
   | (with_reducible exact impl_Applies.mono _ _ _ _ _ _ _ _ _ _ _ _)
   | (with_reducible exact impl_CompileRules.mono _ _)
   | (with_reducible exact impl_CountTable.mono _ _ _)
   | (with_reducible exact impl_DecideRule.mono _ _ _ _ _)
   | (with_reducible exact impl_EqualRules.mono _ _ _)
   | (with_reducible exact impl_FastRule.mono _ _ _ _ _ _)
   | (with_reducible exact impl_LongestBucket.mono _ _ _)
   | (with_reducible exact impl_SortRules.mono _ _)
   | (with_reducible exact spec_DrawDecideRule.mono _ _)
   | (with_reducible exact spec_DrawEqualRules.mono _ _)
   | (with_reducible exact LeO.refl _)
   | (with_reducible exact LeO.none _)
   | (with_reducible refine LeO.ite ?_ ?_)
   | (with_reducible refine LeO.bind ?_ (fun _ => ?_))
   | exact ih0 _ _ _ _ _
   | exact impl_Applies.mono _ _ _ _ _ _ _ _ _ _ _ _
   | exact impl_CompileRules.mono _ _
   | exact impl_CountTable.mono _ _ _
   | exact impl_DecideRule.mono _ _ _ _ _
   | exact impl_EqualRules.mono _ _ _
   | exact impl_FastRule.mono _ _ _ _ _ _
   | exact impl_LongestBucket.mono _ _ _
   | exact impl_SortRules.mono _ _
   | exact spec_DrawDecideRule.mono _ _
   | exact spec_DrawEqualRules.mono _ _
   | exact LeO.none _
   | refine LeO.ite ?_ ?_
   | refine LeO.bind ?_ (fun _ => ?_)
def laws_FnCompiled.T7 : Bool × List (List Nat × List Nat) := (true, [([], []), ([], []), ([1], [1]), ([0, 2], [0, 2]), ([3], [3]), ([4], [4]), ([5, 4, 4], [4, 5]), ([6], [6]), ([6], [6]), ([6], [6]), ([8, 9, 6], [6, 8, 9]), ([10, 6], [6, 10]), ([7, 11, 6, 6], [6, 7, 11]), ([12, 6], [6, 12]), ([13, 12, 6], [6, 13]), ([14], [14]), ([14], [14]), ([15, 16, 14, 14], [14, 15, 16]), ([17, 14], [14, 17]), ([14, 18, 6], [6, 14, 18]), ([6, 19, 4], [4, 6, 19]), ([4, 20], [4, 20])])
def laws_FnCompiled.B7 : List Nat := [0, 0, 2, 7, 15, 31, 63, 127, 127, 127, 895, 1919, 4095, 8191, 16383, 32767, 32767, 131071, 262143, 524287, 1048575, 2097151]
theorem laws_FnCompiled.tab7 : rtab .any (opsOf Try.f3 7) = laws_FnCompiled.T7 := by kernel_rfl
theorem laws_FnCompiled.bits7 : waitsOk laws_FnCompiled.T7.2 laws_FnCompiled.B7 = true := by kernel_rfl
def laws_FnCompiled.T10 : Bool × List (List Nat × List Nat) := (true, [([], []), ([0], [0]), ([], []), ([2, 1], [2]), ([3], [3]), ([1, 4], [1, 4]), ([5, 3], [5]), ([6], [6]), ([7, 6, 6], [6, 7]), ([6], [6]), ([9, 8, 6], [6, 9]), ([8, 10, 6], [6, 8, 10]), ([6, 11], [6, 11]), ([12, 10], [12]), ([13], [13]), ([13], [13]), ([14, 15, 13, 13], [13, 14, 15]), ([13], [13]), ([13], [13]), ([17, 18, 16, 13], [13, 17, 18]), ([16, 19, 13], [13, 16, 19]), ([13, 20], [13, 20]), ([21, 19], [21]), ([22], [22]), ([22], [22]), ([23, 24, 22, 22], [22, 23, 24]), ([22, 25], [22, 25]), ([26, 25, 0, 1, 2, 3, 4, 5, 6, 7, 8, 9, 10, 11, 12, 13, 14, 15, 16, 17, 18, 19, 20, 21, 22, 23, 24, 25, 26], [26])])
def laws_FnCompiled.B10 : List Nat := [0, 1, 0, 7, 15, 31, 63, 127, 255, 127, 1023, 2047, 4095, 8191, 16383, 16383, 65535, 16383, 16383, 524287, 1048575, 2097151, 4194303, 8388607, 8388607, 33554431, 67108863, 134217727]
theorem laws_FnCompiled.tab10 : rtab .any (opsOf Try.f3 10) = laws_FnCompiled.T10 := by kernel_rfl
theorem laws_FnCompiled.bits10 : waitsOk laws_FnCompiled.T10.2 laws_FnCompiled.B10 = true := by kernel_rfl
set_option maxHeartbeats 8000000 in
set_option maxRecDepth 100000 in
theorem laws_FnCompiled.calls (k : Nat) (A0 : Option Addr) (c0 : Nat) (l0 : List Int) (r : Bool) (w : World) (hr0 : Kd.C (Kd.int .u8) w A0 l0.length l0) (hc0 : l0.length ≤ c0) (h : laws_FnCompiled.f k l0 = some r) (hr_ : r = true) :
  Calls Try.prog 3 #[.slice A0 l0.length c0] w fun e w' => e = .returned (.bool r) ∧ Below w.heap.size w w' := by
 have HRT := Aside0.mk hr_
 clear hr_
 have hu28 := Try.underlying28
 have hu33 := Try.underlying33
 have hu37 := Try.underlying37
 have HR0 := Aside0.mk hr0
 have HC0 := Aside0.mk hc0
 clear hr0 hc0
 have HB := am (Below.refl w.heap.size w)
 have H : ((laws_big.f l0).bind fun t633 => (if t633 = true then (some true) else ((spec_DrawDecideRule.f k l0).bind fun bt634 => ((impl_CompileRules.f k bt634.1).bind fun bt641 => ((impl_FastRule.f k bt641.1 bt641.2 bt634.2.1 bt634.2.2.1 bt634.2.2.2).bind fun bt648 => ((impl_DecideRule.f k bt634.1 bt634.2.1 bt634.2.2.1 bt634.2.2.2).bind fun t658 => (if (bt648.2.2.2.2.2.2.2.2 != (decide (t658 ≥ 0))) = true then (laws_FnCompiled.j0 k l0 bt634.1 true bt641.1 bt641.2) else (if bt648.2.2.2.2.2.2.2.2 = true then (if 0 ≤ t658 then (if t658 < (bt634.1.length : Int) then ((laws_sameRule.f bt648.1 bt648.2.1 bt648.2.2.1 bt648.2.2.2.1 bt648.2.2.2.2.1 bt648.2.2.2.2.2.1 bt648.2.2.2.2.2.2.1 bt648.2.2.2.2.2.2.2.1 ((rd_T37 bt634.1 t658).f0) ((rd_T37 bt634.1 t658).f1) ((rd_T37 bt634.1 t658).f2.f0) ((rd_T37 bt634.1 t658).f2.f1) ((rd_T37 bt634.1 t658).f3) ((rd_T37 bt634.1 t658).f4) ((rd_T37 bt634.1 t658).f5.f0) ((rd_T37 bt634.1 t658).f5.f1)).bind fun t660 => (if t660 = true then ((impl_Applies.f k bt648.1 bt648.2.1 bt648.2.2.1 bt648.2.2.2.1 bt648.2.2.2.2.1 bt648.2.2.2.2.2.1 bt648.2.2.2.2.2.2.1 bt648.2.2.2.2.2.2.2.1 bt634.2.1 bt634.2.2.1 bt634.2.2.2).bind fun t661 => (laws_FnCompiled.j0 k l0 bt634.1 (!t661) bt641.1 bt641.2)) else (laws_FnCompiled.j0 k l0 bt634.1 true bt641.1 bt641.2))) else (none)) else (none)) else (laws_FnCompiled.j0 k l0 bt634.1 false bt641.1 bt641.2))))))))) = some r := h
 clear h
 replace H := Option.bind_eq_some_iff.mp H
 obtain ⟨t633, A20, H⟩ := H
 replace H : (if t633 = true then (some true) else ((spec_DrawDecideRule.f k l0).bind fun bt634 => ((impl_CompileRules.f k bt634.1).bind fun bt641 => ((impl_FastRule.f k bt641.1 bt641.2 bt634.2.1 bt634.2.2.1 bt634.2.2.2).bind fun bt648 => ((impl_DecideRule.f k bt634.1 bt634.2.1 bt634.2.2.1 bt634.2.2.2).bind fun t658 => (if (bt648.2.2.2.2.2.2.2.2 != (decide (t658 ≥ 0))) = true then (laws_FnCompiled.j0 k l0 bt634.1 true bt641.1 bt641.2) else (if bt648.2.2.2.2.2.2.2.2 = true then (if 0 ≤ t658 then (if t658 < (bt634.1.length : Int) then ((laws_sameRule.f bt648.1 bt648.2.1 bt648.2.2.1 bt648.2.2.2.1 bt648.2.2.2.2.1 bt648.2.2.2.2.2.1 bt648.2.2.2.2.2.2.1 bt648.2.2.2.2.2.2.2.1 ((rd_T37 bt634.1 t658).f0) ((rd_T37 bt634.1 t658).f1) ((rd_T37 bt634.1 t658).f2.f0) ((rd_T37 bt634.1 t658).f2.f1) ((rd_T37 bt634.1 t658).f3) ((rd_T37 bt634.1 t658).f4) ((rd_T37 bt634.1 t658).f5.f0) ((rd_T37 bt634.1 t658).f5.f1)).bind fun t660 => (if t660 = true then ((impl_Applies.f k bt648.1 bt648.2.1 bt648.2.2.1 bt648.2.2.2.1 bt648.2.2.2.2.1 bt648.2.2.2.2.2.1 bt648.2.2.2.2.2.2.1 bt648.2.2.2.2.2.2.2.1 bt634.2.1 bt634.2.2.1 bt634.2.2.2).bind fun t661 => (laws_FnCompiled.j0 k l0 bt634.1 (!t661) bt641.1 bt641.2)) else (laws_FnCompiled.j0 k l0 bt634.1 true bt641.1 bt641.2))) else (none)) else (none)) else (laws_FnCompiled.j0 k l0 bt634.1 false bt641.1 bt641.2)))))))) = some r := H
 have A2 := Aside0.mk A20
 clear A20
 by_cases c3 : t633 = true
 ·subst c3
  have H1 : (some true) = some r := by rw [if_pos rfl] at H; exact H
  clear H
  have H := H1
  clear H1
  obtain rfl := Option.some.inj H
  go_enter Try.func3, Try.ntmps3
  go_wp2_with (first | ((with_reducible refine gate_callee (f := 7) rfl ?_); refine goesL_ (some 12) rfl rfl Try.func7 (by kernel_rfl) rfl #[.slice A0 l0.length c0] rfl (by (try simp only [List.map_toArray, List.map_cons, List.map_nil]); first | done | rfl | (simp only [List.length_drop, List.length_take]; rfl)) ?_; (with_reducible refine (laws_big.calls _ _ l0 true _ ?side1 ?side2 A2.out).mono ?_); (case side1 => exact cB (HR0.out)); (case side2 => exact HC0.out); rintro e w' ⟨rfl, ⟨nd, rfl⟩⟩; refine ⟨_, rfl, ?_⟩))
  go_ret
  exact ⟨by first | rfl | (simp [errW_none, errW_some] <;> rfl) | (simp [*, errW_none, errW_some] <;> rfl), sB HB.out⟩
 ·replace c3 := Bool.eq_false_iff.mpr c3
  subst c3
  have H1 : ((spec_DrawDecideRule.f k l0).bind fun bt634 => ((impl_CompileRules.f k bt634.1).bind fun bt641 => ((impl_FastRule.f k bt641.1 bt641.2 bt634.2.1 bt634.2.2.1 bt634.2.2.2).bind fun bt648 => ((impl_DecideRule.f k bt634.1 bt634.2.1 bt634.2.2.1 bt634.2.2.2).bind fun t658 => (if (bt648.2.2.2.2.2.2.2.2 != (decide (t658 ≥ 0))) = true then (laws_FnCompiled.j0 k l0 bt634.1 true bt641.1 bt641.2) else (if bt648.2.2.2.2.2.2.2.2 = true then (if 0 ≤ t658 then (if t658 < (bt634.1.length : Int) then ((laws_sameRule.f bt648.1 bt648.2.1 bt648.2.2.1 bt648.2.2.2.1 bt648.2.2.2.2.1 bt648.2.2.2.2.2.1 bt648.2.2.2.2.2.2.1 bt648.2.2.2.2.2.2.2.1 ((rd_T37 bt634.1 t658).f0) ((rd_T37 bt634.1 t658).f1) ((rd_T37 bt634.1 t658).f2.f0) ((rd_T37 bt634.1 t658).f2.f1) ((rd_T37 bt634.1 t658).f3) ((rd_T37 bt634.1 t658).f4) ((rd_T37 bt634.1 t658).f5.f0) ((rd_T37 bt634.1 t658).f5.f1)).bind fun t660 => (if t660 = true then ((impl_Applies.f k bt648.1 bt648.2.1 bt648.2.2.1 bt648.2.2.2.1 bt648.2.2.2.2.1 bt648.2.2.2.2.2.1 bt648.2.2.2.2.2.2.1 bt648.2.2.2.2.2.2.2.1 bt634.2.1 bt634.2.2.1 bt634.2.2.2).bind fun t661 => (laws_FnCompiled.j0 k l0 bt634.1 (!t661) bt641.1 bt641.2)) else (laws_FnCompiled.j0 k l0 bt634.1 true bt641.1 bt641.2))) else (none)) else (none)) else (laws_FnCompiled.j0 k l0 bt634.1 false bt641.1 bt641.2))))))) = some r := by rw [if_neg (show ¬ (false = true) by decide)] at H; exact H
  clear H
  have H := H1
  clear H1
  replace H := Option.bind_eq_some_iff.mp H
  obtain ⟨⟨t634, t637, t638, t639⟩, A40, H⟩ := H
  replace H : ((impl_CompileRules.f k t634).bind fun bt641 => ((impl_FastRule.f k bt641.1 bt641.2 t637 t638 t639).bind fun bt648 => ((impl_DecideRule.f k t634 t637 t638 t639).bind fun t658 => (if (bt648.2.2.2.2.2.2.2.2 != (decide (t658 ≥ 0))) = true then (laws_FnCompiled.j0 k l0 t634 true bt641.1 bt641.2) else (if bt648.2.2.2.2.2.2.2.2 = true then (if 0 ≤ t658 then (if t658 < (t634.length : Int) then ((laws_sameRule.f bt648.1 bt648.2.1 bt648.2.2.1 bt648.2.2.2.1 bt648.2.2.2.2.1 bt648.2.2.2.2.2.1 bt648.2.2.2.2.2.2.1 bt648.2.2.2.2.2.2.2.1 ((rd_T37 t634 t658).f0) ((rd_T37 t634 t658).f1) ((rd_T37 t634 t658).f2.f0) ((rd_T37 t634 t658).f2.f1) ((rd_T37 t634 t658).f3) ((rd_T37 t634 t658).f4) ((rd_T37 t634 t658).f5.f0) ((rd_T37 t634 t658).f5.f1)).bind fun t660 => (if t660 = true then ((impl_Applies.f k bt648.1 bt648.2.1 bt648.2.2.1 bt648.2.2.2.1 bt648.2.2.2.2.1 bt648.2.2.2.2.2.1 bt648.2.2.2.2.2.2.1 bt648.2.2.2.2.2.2.2.1 t637 t638 t639).bind fun t661 => (laws_FnCompiled.j0 k l0 t634 (!t661) bt641.1 bt641.2)) else (laws_FnCompiled.j0 k l0 t634 true bt641.1 bt641.2))) else (none)) else (none)) else (laws_FnCompiled.j0 k l0 t634 false bt641.1 bt641.2)))))) = some r := H
  have A4 := Aside0.mk A40
  clear A40
  replace H := Option.bind_eq_some_iff.mp H
  obtain ⟨⟨t641, t644⟩, A50, H⟩ := H
  replace H : ((impl_FastRule.f k t641 t644 t637 t638 t639).bind fun bt648 => ((impl_DecideRule.f k t634 t637 t638 t639).bind fun t658 => (if (bt648.2.2.2.2.2.2.2.2 != (decide (t658 ≥ 0))) = true then (laws_FnCompiled.j0 k l0 t634 true t641 t644) else (if bt648.2.2.2.2.2.2.2.2 = true then (if 0 ≤ t658 then (if t658 < (t634.length : Int) then ((laws_sameRule.f bt648.1 bt648.2.1 bt648.2.2.1 bt648.2.2.2.1 bt648.2.2.2.2.1 bt648.2.2.2.2.2.1 bt648.2.2.2.2.2.2.1 bt648.2.2.2.2.2.2.2.1 ((rd_T37 t634 t658).f0) ((rd_T37 t634 t658).f1) ((rd_T37 t634 t658).f2.f0) ((rd_T37 t634 t658).f2.f1) ((rd_T37 t634 t658).f3) ((rd_T37 t634 t658).f4) ((rd_T37 t634 t658).f5.f0) ((rd_T37 t634 t658).f5.f1)).bind fun t660 => (if t660 = true then ((impl_Applies.f k bt648.1 bt648.2.1 bt648.2.2.1 bt648.2.2.2.1 bt648.2.2.2.2.1 bt648.2.2.2.2.2.1 bt648.2.2.2.2.2.2.1 bt648.2.2.2.2.2.2.2.1 t637 t638 t639).bind fun t661 => (laws_FnCompiled.j0 k l0 t634 (!t661) t641 t644)) else (laws_FnCompiled.j0 k l0 t634 true t641 t644))) else (none)) else (none)) else (laws_FnCompiled.j0 k l0 t634 false t641 t644))))) = some r := H
  have A5 := Aside0.mk A50
  clear A50
  replace H := Option.bind_eq_some_iff.mp H
  obtain ⟨⟨t648, t649, t650, t651, t652, t653, t654, t655, t656⟩, A60, H⟩ := H
  replace H : ((impl_DecideRule.f k t634 t637 t638 t639).bind fun t658 => (if (t656 != (decide (t658 ≥ 0))) = true then (laws_FnCompiled.j0 k l0 t634 true t641 t644) else (if t656 = true then (if 0 ≤ t658 then (if t658 < (t634.length : Int) then ((laws_sameRule.f t648 t649 t650 t651 t652 t653 t654 t655 ((rd_T37 t634 t658).f0) ((rd_T37 t634 t658).f1) ((rd_T37 t634 t658).f2.f0) ((rd_T37 t634 t658).f2.f1) ((rd_T37 t634 t658).f3) ((rd_T37 t634 t658).f4) ((rd_T37 t634 t658).f5.f0) ((rd_T37 t634 t658).f5.f1)).bind fun t660 => (if t660 = true then ((impl_Applies.f k t648 t649 t650 t651 t652 t653 t654 t655 t637 t638 t639).bind fun t661 => (laws_FnCompiled.j0 k l0 t634 (!t661) t641 t644)) else (laws_FnCompiled.j0 k l0 t634 true t641 t644))) else (none)) else (none)) else (laws_FnCompiled.j0 k l0 t634 false t641 t644)))) = some r := H
  have A6 := Aside0.mk A60
  clear A60
  replace H := Option.bind_eq_some_iff.mp H
  obtain ⟨t658, A70, H⟩ := H
  replace H : (if (t656 != (decide (t658 ≥ 0))) = true then (laws_FnCompiled.j0 k l0 t634 true t641 t644) else (if t656 = true then (if 0 ≤ t658 then (if t658 < (t634.length : Int) then ((laws_sameRule.f t648 t649 t650 t651 t652 t653 t654 t655 ((rd_T37 t634 t658).f0) ((rd_T37 t634 t658).f1) ((rd_T37 t634 t658).f2.f0) ((rd_T37 t634 t658).f2.f1) ((rd_T37 t634 t658).f3) ((rd_T37 t634 t658).f4) ((rd_T37 t634 t658).f5.f0) ((rd_T37 t634 t658).f5.f1)).bind fun t660 => (if t660 = true then ((impl_Applies.f k t648 t649 t650 t651 t652 t653 t654 t655 t637 t638 t639).bind fun t661 => (laws_FnCompiled.j0 k l0 t634 (!t661) t641 t644)) else (laws_FnCompiled.j0 k l0 t634 true t641 t644))) else (none)) else (none)) else (laws_FnCompiled.j0 k l0 t634 false t641 t644))) = some r := H
  have A7 := Aside0.mk A70
  clear A70
  have HC8 := Aside0.mk H
  clear H
  go_enter Try.func3, Try.ntmps3
  go_upto_region 7 with (first | ((with_reducible refine gate_callee (f := 7) rfl ?_); refine goesL_ (some 12) rfl rfl Try.func7 (by kernel_rfl) rfl #[.slice A0 l0.length c0] rfl (by (try simp only [List.map_toArray, List.map_cons, List.map_nil]); first | done | rfl | (simp only [List.length_drop, List.length_take]; rfl)) ?_; (with_reducible refine (laws_big.calls _ _ l0 false _ ?side1 ?side2 A2.out).mono ?_); (case side1 => exact cB (HR0.out)); (case side2 => exact HC0.out); rintro e w' ⟨rfl, ⟨nd, rfl⟩⟩; refine ⟨_, rfl, ?_⟩) | ((with_reducible refine gate_callee (f := 8) rfl ?_); refine goesL_ (some 15) rfl rfl Try.func8 (by kernel_rfl) rfl #[.slice A0 l0.length c0] rfl (by (try simp only [List.map_toArray, List.map_cons, List.map_nil]); first | done | rfl | (simp only [List.length_drop, List.length_take]; rfl)) ?_; (with_reducible refine (spec_DrawDecideRule.calls k _ _ l0 t634 t637 t638 t639 _ ?side1 ?side2 A4.out).mono ?_); (case side1 => exact cB (HR0.out)); (case side2 => exact HC0.out); rintro e w9 ⟨v635, rfl, ho0, hb⟩; refine ⟨_, rfl, ?_⟩; have n0_ := am (Kd.R_lower ho0 (below_size (sB HB.out))); have n1_ := am (below_step (sB HB.out) hb); clear HB; have HO636 := n0_; have HB := n1_; clear n0_ n1_; (try clear hb); (try clear hb2); (try clear hk); (try clear hi); (try clear ho0)) | ((with_reducible refine gate_dst (N := 4) rfl ?_); refine box_event ?hg (N := 4) ?hd (cs := #[.int .i64 0, .int .i64 0, .int .i64 0]) (t := 28) ?hr ?_; (case hd => rfl); (case hg => rfl); (case hr => first | (go_simp; done) | (go_simp; rfl)); intro gb640 hg w10 hbox hb; have n0_ := am (Kd.R_below (rB HO636.out) hb); have q_ := hbx_ (sB HB.out) hg hb; have n1_ := q_.1; have n2_ := am (hbox); have n3_ := q_.2; have n4_ := n3_; clear HO636; clear HB; have HO636 := n0_; have HB := n1_; have BK640 := n2_; have GW640 := n3_; have GE640 := n4_; clear n0_ n1_ n2_ n3_ n4_; clear hb hbox hg; obtain ⟨hcz11_0, hcz11_1, hcz11_2, hfz11_0, hfz11_1, hfz11_2⟩ := blk3 BK640.out; obtain ⟨Ao12, co12, eo12⟩ := Kd.R_slice HO636.out; subst eo12) | ((with_reducible refine gate_callee (f := 9) rfl ?_); refine goesL_ (some 19) rfl rfl Try.func9 (by kernel_rfl) rfl #[.slice Ao12 t634.length co12] rfl (by (try simp only [List.map_toArray, List.map_cons, List.map_nil]); first | done | rfl | (simp only [List.length_drop, List.length_take]; rfl)) ?_; (with_reducible refine (impl_CompileRules.calls k _ _ t634 t641 t644 _ ?side1 ?side2 A5.out).mono ?_); (case side1 => refine (Kd.R_reads' (e := 37) (base := w.heap.size) (ok := fun k_ => True) (n := t634.length) (c := co12) ?_).2.2; exact (by (with_reducible repeat (first | apply Kd.R_alloc | apply Kd.R_drewN | apply Kd.R_drew)); exact (Kd.R_mono (Kd.R_far (p := ⟨gb640, 2, none⟩) (Kd.R_far (p := ⟨gb640, 1, none⟩) (Kd.R_far (p := ⟨gb640, 0, none⟩) (Kd.R_types HO636.out BK640.out (by decide)) (fun _ hk => hk.2) (.int .i64 t637)) (fun _ hk => hk.2) (.int .i64 t638)) (fun _ hk => hk.2) (.int .i64 t639)) (fun _ h_ => h_.1)))); (case side2 => exact (Kd.R_reads' HO636.out).2.1); rintro e w13 ⟨v642, v645, rfl, ho0, ho1, hb⟩; refine ⟨_, rfl, ?_⟩; have n0_ := am (Kd.R_elder' (by (with_reducible repeat (first | apply Kd.R_alloc | apply Kd.R_drewN | apply Kd.R_drew)); exact (Kd.R_mono (Kd.R_far (p := ⟨gb640, 2, none⟩) (Kd.R_far (p := ⟨gb640, 1, none⟩) (Kd.R_far (p := ⟨gb640, 0, none⟩) (Kd.R_types HO636.out BK640.out (by decide)) (fun _ hk => hk.2) (.int .i64 t637)) (fun _ hk => hk.2) (.int .i64 t638)) (fun _ hk => hk.2) (.int .i64 t639)) (fun _ h_ => h_.1))) (Kd.R_base ho0) hb); have n1_ := am (Kd.R_lower (Kd.R_new' ho0 (Kd.R_lt (by (with_reducible repeat (first | apply Kd.R_alloc | apply Kd.R_drewN | apply Kd.R_drew)); exact (Kd.R_mono (Kd.R_far (p := ⟨gb640, 2, none⟩) (Kd.R_far (p := ⟨gb640, 1, none⟩) (Kd.R_far (p := ⟨gb640, 0, none⟩) (Kd.R_types HO636.out BK640.out (by decide)) (fun _ hk => hk.2) (.int .i64 t637)) (fun _ hk => hk.2) (.int .i64 t638)) (fun _ hk => hk.2) (.int .i64 t639)) (fun _ h_ => h_.1))))) (below_size (sB HB.out))); have n2_ := am (Kd.S_lower (Kd.S_new' ho1 (Kd.R_lt (by (with_reducible repeat (first | apply Kd.R_alloc | apply Kd.R_drewN | apply Kd.R_drew)); exact (Kd.R_mono (Kd.R_far (p := ⟨gb640, 2, none⟩) (Kd.R_far (p := ⟨gb640, 1, none⟩) (Kd.R_far (p := ⟨gb640, 0, none⟩) (Kd.R_types HO636.out BK640.out (by decide)) (fun _ hk => hk.2) (.int .i64 t637)) (fun _ hk => hk.2) (.int .i64 t638)) (fun _ hk => hk.2) (.int .i64 t639)) (fun _ h_ => h_.1))))) (below_size (sB HB.out))); have n3_ := am (blk_below (g := gb640) (o := .cells #[.int .i64 t637, .int .i64 t638, .int .i64 t639] 28 (0, 0)) (by refine bB ?_; refine blk_put (cs := #[.int .i64 t637, .int .i64 t638, .int .i64 0]) ?_ 2 _ rfl; refine bB ?_; refine blk_put (cs := #[.int .i64 t637, .int .i64 0, .int .i64 0]) ?_ 1 _ rfl; refine bB ?_; refine blk_put (cs := #[.int .i64 0, .int .i64 0, .int .i64 0]) ?_ 0 _ rfl; refine bB ?_; exact BK640.out) hb); have n4_ := am (below_step (sB HB.out) hb); clear HO636; clear BK640; clear HB; have HO636 := n0_; have HO643 := n1_; have HO646 := n2_; have BK640 := n3_; have HB := n4_; clear n0_ n1_ n2_ n3_ n4_; (try clear hb); (try clear hb2); (try clear hk); (try clear hi); (try clear ho0); (try clear ho1)) | ((with_reducible refine gate_dst (N := 5) rfl ?_); refine box_event ?hg (N := 5) ?hd (cs := #[.slice none 0 0, .slice none 0 0]) (t := 33) ?hr ?_; (case hd => rfl); (case hg => rfl); (case hr => first | (go_simp; done) | (go_simp; rfl)); intro gb647 hg w14 hbox hb; have n0_ := am (Kd.R_below (rB HO636.out) hb); have n1_ := am (Kd.R_below (rB HO643.out) hb); have n2_ := am (Kd.S_below (by (with_reducible repeat (first | apply Kd.S_alloc | apply Kd.S_drewN | apply Kd.S_drew)); exact HO646.out) hb); have n3_ := am (blk_below (bB BK640.out) hb); have q_ := hbx_ (sB HB.out) hg hb; have n4_ := q_.1; have n5_ := am (hbox); have n6_ := q_.2; have n7_ := n6_; have n8_ := am ((by rw [hg]; exact Nat.ne_of_lt (blk_lt (g := gb640) (o := .cells #[.int .i64 t637, .int .i64 t638, .int .i64 t639] 28 (0, 0)) (bB BK640.out)) : gb640 ≠ gb647)); have n9_ := am ((by rw [hg]; exact Nat.ne_of_gt (blk_lt (g := gb640) (o := .cells #[.int .i64 t637, .int .i64 t638, .int .i64 t639] 28 (0, 0)) (bB BK640.out)) : gb647 ≠ gb640)); clear HO636; clear HO643; clear HO646; clear BK640; clear HB; have HO636 := n0_; have HO643 := n1_; have HO646 := n2_; have BK640 := n3_; have HB := n4_; have BK647 := n5_; have GW647 := n6_; have GE647 := n7_; have NB640_647 := n8_; have NB647_640 := n9_; clear n0_ n1_ n2_ n3_ n4_ n5_ n6_ n7_ n8_ n9_; clear hb hbox hg; obtain ⟨Ao15, co15, eo15⟩ := Kd.R_slice HO643.out; subst eo15; have hnb16 := NB647_640.out; have hnc16 := NB640_647.out; obtain ⟨hcz17_0, hcz17_1, hfz17_0, hfz17_1⟩ := blk2 BK647.out; obtain ⟨Ao18, co18, eo18⟩ := Kd.S_slice HO646.out; subst eo18; obtain ⟨hcz19_0, hcz19_1, hcz19_2, hfz19_0, hfz19_1, hfz19_2⟩ := blk3 BK640.out) | ((with_reducible refine gate_callee (f := 10) rfl ?_); refine goesL_ (some 23) rfl rfl Try.func10 (by kernel_rfl) rfl #[.agg #[.slice Ao15 t641.length co15, .slice Ao18 t644.length co18], .agg #[.int .i64 t637, .int .i64 t638, .int .i64 t639]] rfl (by (try simp only [List.map_toArray, List.map_cons, List.map_nil]); first | done | rfl | (simp only [List.length_drop, List.length_take]; rfl)) ?_; (with_reducible refine (impl_FastRule.calls k _ _ t641 _ _ t644 t637 t638 t639 t648 t649 t650 t651 t652 t653 t654 t655 t656 _ ?side1 ?side2 ?side3 ?side4 A6.out).mono ?_); (case side1 => refine (Kd.R_reads' (e := 37) (base := w.heap.size) (ok := fun k_ => (True ∧ some k_ ≠ (.slice Ao12 t634.length co12 : Value).ownBlock)) (n := t641.length) (c := co15) ?_).2.2; exact (by (with_reducible repeat (first | apply Kd.R_alloc | apply Kd.R_drewN | apply Kd.R_drew)); exact (Kd.R_mono (Kd.R_far (p := ⟨gb647, 1, none⟩) (Kd.R_far (p := ⟨gb647, 0, none⟩) (Kd.R_types HO643.out BK647.out (by decide)) (fun _ hk => hk.2) (.slice Ao15 t641.length co15)) (fun _ hk => hk.2) (.slice Ao18 t644.length co18)) (fun _ h_ => h_.1)))); (case side2 => exact (Kd.R_reads' HO643.out).2.1); (case side3 => refine (Kd.S_reads' (e := 24) (base := w.heap.size) (ok := fun k_ => (some k_ ≠ (.slice Ao15 t641.length co15 : Value).ownBlock ∧ some k_ ≠ (.slice Ao12 t634.length co12 : Value).ownBlock)) (n := t644.length) (c := co18) ?_).2.2; exact (by (with_reducible repeat (first | apply Kd.S_alloc | apply Kd.S_drewN | apply Kd.S_drew)); exact (Kd.S_mono (Kd.S_far (p := ⟨gb647, 1, none⟩) (Kd.S_far (p := ⟨gb647, 0, none⟩) (Kd.S_types HO646.out BK647.out (by decide)) (fun _ hk => hk.2) (.slice Ao15 t641.length co15)) (fun _ hk => hk.2) (.slice Ao18 t644.length co18)) (fun _ h_ => h_.1)))); (case side4 => exact (Kd.S_reads' HO646.out).2.1); rintro e w20 ⟨rfl, hb⟩; refine ⟨_, rfl, ?_⟩; replace HO636 := am (Kd.R_below (by (with_reducible repeat (first | apply Kd.R_alloc | apply Kd.R_drewN | apply Kd.R_drew)); exact (Kd.R_mono (Kd.R_far (p := ⟨gb647, 1, none⟩) (Kd.R_far (p := ⟨gb647, 0, none⟩) (Kd.R_types HO636.out BK647.out (by decide)) (fun _ hk => hk.2) (.slice Ao15 t641.length co15)) (fun _ hk => hk.2) (.slice Ao18 t644.length co18)) (fun _ h_ => h_.1))) hb); replace HO643 := am (Kd.R_below (by (with_reducible repeat (first | apply Kd.R_alloc | apply Kd.R_drewN | apply Kd.R_drew)); exact (Kd.R_mono (Kd.R_far (p := ⟨gb647, 1, none⟩) (Kd.R_far (p := ⟨gb647, 0, none⟩) (Kd.R_types HO643.out BK647.out (by decide)) (fun _ hk => hk.2) (.slice Ao15 t641.length co15)) (fun _ hk => hk.2) (.slice Ao18 t644.length co18)) (fun _ h_ => h_.1))) hb); replace HO646 := am (Kd.S_below (by (with_reducible repeat (first | apply Kd.S_alloc | apply Kd.S_drewN | apply Kd.S_drew)); exact (Kd.S_mono (Kd.S_far (p := ⟨gb647, 1, none⟩) (Kd.S_far (p := ⟨gb647, 0, none⟩) (Kd.S_types HO646.out BK647.out (by decide)) (fun _ hk => hk.2) (.slice Ao15 t641.length co15)) (fun _ hk => hk.2) (.slice Ao18 t644.length co18)) (fun _ h_ => h_.1))) hb); replace BK640 := am (blk_below (g := gb640) (o := .cells #[.int .i64 t637, .int .i64 t638, .int .i64 t639] 28 (0, 0)) (by refine bB ?_; refine blk_far ?_ NB640_647.out _; refine bB ?_; refine blk_far ?_ NB640_647.out _; refine bB ?_; exact BK640.out) hb); replace BK647 := am (blk_below (g := gb647) (o := .cells #[.slice Ao15 t641.length co15, .slice Ao18 t644.length co18] 33 (0, 0)) (by refine bB ?_; refine blk_put (cs := #[.slice Ao15 t641.length co15, .slice none 0 0]) ?_ 1 _ rfl; refine bB ?_; refine blk_put (cs := #[.slice none 0 0, .slice none 0 0]) ?_ 0 _ rfl; refine bB ?_; exact BK647.out) hb); replace HB := am (below_step (sB HB.out) hb); (try clear hb); (try clear hb2); (try clear hk); (try clear hi)) | ((with_reducible refine gate_dst (N := 6) rfl ?_); refine box_event ?hg (N := 6) ?hd (cs := #[.int .i64 0, .int .i64 0, .int .i64 0, .int .i64 0, .int .i64 0, .int .i64 0, .int .i64 0, .int .i64 0]) (t := 37) ?hr ?_; (case hd => rfl); (case hg => rfl); (case hr => first | (go_simp; done) | (go_simp; rfl)); intro gb657 hg w21 hbox hb; have n0_ := am (Kd.R_below (Kd.R_elderB (rB HO636.out) gb657 (Nat.le_of_eq hg.symm)) hb); have n1_ := am (Kd.R_below (Kd.R_elderB (rB HO643.out) gb657 (Nat.le_of_eq hg.symm)) hb); have n2_ := am (Kd.S_below (Kd.S_elderB (by (with_reducible repeat (first | apply Kd.S_alloc | apply Kd.S_drewN | apply Kd.S_drew)); exact HO646.out) gb657 (Nat.le_of_eq hg.symm)) hb); have n3_ := am (blk_below (bB BK640.out) hb); have n4_ := am (blk_below (bB BK647.out) hb); have q_ := hbx_ (sB HB.out) hg hb; have n5_ := q_.1; have n6_ := am (hbox); have n7_ := q_.2; have n8_ := n7_; have n9_ := am ((by rw [hg]; exact Nat.ne_of_lt (blk_lt (g := gb640) (o := .cells #[.int .i64 t637, .int .i64 t638, .int .i64 t639] 28 (0, 0)) (bB BK640.out)) : gb640 ≠ gb657)); have n10_ := am ((by rw [hg]; exact Nat.ne_of_gt (blk_lt (g := gb640) (o := .cells #[.int .i64 t637, .int .i64 t638, .int .i64 t639] 28 (0, 0)) (bB BK640.out)) : gb657 ≠ gb640)); have n11_ := am ((by rw [hg]; exact Nat.ne_of_lt (blk_lt (g := gb647) (o := .cells #[.slice Ao15 t641.length co15, .slice Ao18 t644.length co18] 33 (0, 0)) (bB BK647.out)) : gb647 ≠ gb657)); have n12_ := am ((by rw [hg]; exact Nat.ne_of_gt (blk_lt (g := gb647) (o := .cells #[.slice Ao15 t641.length co15, .slice Ao18 t644.length co18] 33 (0, 0)) (bB BK647.out)) : gb657 ≠ gb647)); clear HO636; clear HO643; clear HO646; clear BK640; clear BK647; clear HB; have HO636 := n0_; have HO643 := n1_; have HO646 := n2_; have BK640 := n3_; have BK647 := n4_; have HB := n5_; have BK657 := n6_; have GW657 := n7_; have GE657 := n8_; have NB640_657 := n9_; have NB657_640 := n10_; have NB647_657 := n11_; have NB657_647 := n12_; clear n0_ n1_ n2_ n3_ n4_ n5_ n6_ n7_ n8_ n9_ n10_ n11_ n12_; clear hb hbox hg; have hnb22 := NB657_640.out; have hnc22 := NB640_657.out; have hnb23 := NB657_647.out; have hnc23 := NB647_657.out; obtain ⟨hcz24_0, hcz24_1, hcz24_2, hcz24_3, hcz24_4, hcz24_5, hcz24_6, hcz24_7, hfz24_0, hfz24_1, hfz24_2, hfz24_3, hfz24_4, hfz24_5, hfz24_6, hfz24_7⟩ := blk8 BK657.out; obtain ⟨hcz25_0, hcz25_1, hcz25_2, hfz25_0, hfz25_1, hfz25_2⟩ := blk3 BK640.out) | ((with_reducible refine gate_callee (f := 11) rfl ?_); refine goesL_ (some 28) rfl rfl Try.func11 (by kernel_rfl) rfl #[.slice Ao12 t634.length co12, .agg #[.int .i64 t637, .int .i64 t638, .int .i64 t639]] rfl (by (try simp only [List.map_toArray, List.map_cons, List.map_nil]); first | done | rfl | (simp only [List.length_drop, List.length_take]; rfl)) ?_; (with_reducible refine (impl_DecideRule.calls k _ _ t634 t637 t638 t639 t658 _ ?side1 ?side2 A7.out).mono ?_); (case side1 => refine (Kd.R_reads' (e := 37) (base := w.heap.size) (ok := fun k_ => ((True ∧ some k_ ≠ (.slice Ao15 t641.length co15 : Value).ownBlock) ∧ k_ ≠ gb657)) (n := t634.length) (c := co12) ?_).2.2; exact (by (with_reducible repeat (first | apply Kd.R_alloc | apply Kd.R_drewN | apply Kd.R_drew)); exact (Kd.R_mono (Kd.R_far (p := ⟨gb657, 7, none⟩) (Kd.R_far (p := ⟨gb657, 6, none⟩) (Kd.R_far (p := ⟨gb657, 5, none⟩) (Kd.R_far (p := ⟨gb657, 4, none⟩) (Kd.R_far (p := ⟨gb657, 3, none⟩) (Kd.R_far (p := ⟨gb657, 2, none⟩) (Kd.R_far (p := ⟨gb657, 1, none⟩) (Kd.R_far (p := ⟨gb657, 0, none⟩) (Kd.R_mono HO636.out (fun k_ hk => (⟨hk, hk.2⟩ : _ ∧ k_ ≠ gb657))) (fun _ hk => hk.2) (.int .i64 t648)) (fun _ hk => hk.2) (.int .i64 t649)) (fun _ hk => hk.2) (.int .i64 t650)) (fun _ hk => hk.2) (.int .i64 t651)) (fun _ hk => hk.2) (.int .i64 t652)) (fun _ hk => hk.2) (.int .i64 t653)) (fun _ hk => hk.2) (.int .i64 t654)) (fun _ hk => hk.2) (.int .i64 t655)) (fun _ h_ => h_.1)))); (case side2 => exact (Kd.R_reads' HO636.out).2.1); rintro e w26 ⟨rfl, hb⟩; refine ⟨_, rfl, ?_⟩; replace HO636 := am (Kd.R_below (by (with_reducible repeat (first | apply Kd.R_alloc | apply Kd.R_drewN | apply Kd.R_drew)); exact (Kd.R_mono (Kd.R_far (p := ⟨gb657, 7, none⟩) (Kd.R_far (p := ⟨gb657, 6, none⟩) (Kd.R_far (p := ⟨gb657, 5, none⟩) (Kd.R_far (p := ⟨gb657, 4, none⟩) (Kd.R_far (p := ⟨gb657, 3, none⟩) (Kd.R_far (p := ⟨gb657, 2, none⟩) (Kd.R_far (p := ⟨gb657, 1, none⟩) (Kd.R_far (p := ⟨gb657, 0, none⟩) (Kd.R_mono HO636.out (fun k_ hk => (⟨hk, hk.2⟩ : _ ∧ k_ ≠ gb657))) (fun _ hk => hk.2) (.int .i64 t648)) (fun _ hk => hk.2) (.int .i64 t649)) (fun _ hk => hk.2) (.int .i64 t650)) (fun _ hk => hk.2) (.int .i64 t651)) (fun _ hk => hk.2) (.int .i64 t652)) (fun _ hk => hk.2) (.int .i64 t653)) (fun _ hk => hk.2) (.int .i64 t654)) (fun _ hk => hk.2) (.int .i64 t655)) (fun _ h_ => h_.1))) hb); replace HO643 := am (Kd.R_below (by (with_reducible repeat (first | apply Kd.R_alloc | apply Kd.R_drewN | apply Kd.R_drew)); exact (Kd.R_mono (Kd.R_far (p := ⟨gb657, 7, none⟩) (Kd.R_far (p := ⟨gb657, 6, none⟩) (Kd.R_far (p := ⟨gb657, 5, none⟩) (Kd.R_far (p := ⟨gb657, 4, none⟩) (Kd.R_far (p := ⟨gb657, 3, none⟩) (Kd.R_far (p := ⟨gb657, 2, none⟩) (Kd.R_far (p := ⟨gb657, 1, none⟩) (Kd.R_far (p := ⟨gb657, 0, none⟩) (Kd.R_mono HO643.out (fun k_ hk => (⟨hk, hk.2⟩ : _ ∧ k_ ≠ gb657))) (fun _ hk => hk.2) (.int .i64 t648)) (fun _ hk => hk.2) (.int .i64 t649)) (fun _ hk => hk.2) (.int .i64 t650)) (fun _ hk => hk.2) (.int .i64 t651)) (fun _ hk => hk.2) (.int .i64 t652)) (fun _ hk => hk.2) (.int .i64 t653)) (fun _ hk => hk.2) (.int .i64 t654)) (fun _ hk => hk.2) (.int .i64 t655)) (fun _ h_ => h_.1))) hb); replace HO646 := am (Kd.S_below (by (with_reducible repeat (first | apply Kd.S_alloc | apply Kd.S_drewN | apply Kd.S_drew)); exact (Kd.S_mono (Kd.S_far (p := ⟨gb657, 7, none⟩) (Kd.S_far (p := ⟨gb657, 6, none⟩) (Kd.S_far (p := ⟨gb657, 5, none⟩) (Kd.S_far (p := ⟨gb657, 4, none⟩) (Kd.S_far (p := ⟨gb657, 3, none⟩) (Kd.S_far (p := ⟨gb657, 2, none⟩) (Kd.S_far (p := ⟨gb657, 1, none⟩) (Kd.S_far (p := ⟨gb657, 0, none⟩) (Kd.S_mono HO646.out (fun k_ hk => (⟨hk, hk.2⟩ : _ ∧ k_ ≠ gb657))) (fun _ hk => hk.2) (.int .i64 t648)) (fun _ hk => hk.2) (.int .i64 t649)) (fun _ hk => hk.2) (.int .i64 t650)) (fun _ hk => hk.2) (.int .i64 t651)) (fun _ hk => hk.2) (.int .i64 t652)) (fun _ hk => hk.2) (.int .i64 t653)) (fun _ hk => hk.2) (.int .i64 t654)) (fun _ hk => hk.2) (.int .i64 t655)) (fun _ h_ => h_.1))) hb); replace BK640 := am (blk_below (g := gb640) (o := .cells #[.int .i64 t637, .int .i64 t638, .int .i64 t639] 28 (0, 0)) (by refine bB ?_; refine blk_far ?_ NB640_657.out _; refine bB ?_; refine blk_far ?_ NB640_657.out _; refine bB ?_; refine blk_far ?_ NB640_657.out _; refine bB ?_; refine blk_far ?_ NB640_657.out _; refine bB ?_; refine blk_far ?_ NB640_657.out _; refine bB ?_; refine blk_far ?_ NB640_657.out _; refine bB ?_; refine blk_far ?_ NB640_657.out _; refine bB ?_; refine blk_far ?_ NB640_657.out _; refine bB ?_; exact BK640.out) hb); replace BK647 := am (blk_below (g := gb647) (o := .cells #[.slice Ao15 t641.length co15, .slice Ao18 t644.length co18] 33 (0, 0)) (by refine bB ?_; refine blk_far ?_ NB647_657.out _; refine bB ?_; refine blk_far ?_ NB647_657.out _; refine bB ?_; refine blk_far ?_ NB647_657.out _; refine bB ?_; refine blk_far ?_ NB647_657.out _; refine bB ?_; refine blk_far ?_ NB647_657.out _; refine bB ?_; refine blk_far ?_ NB647_657.out _; refine bB ?_; refine blk_far ?_ NB647_657.out _; refine bB ?_; refine blk_far ?_ NB647_657.out _; refine bB ?_; exact BK647.out) hb); replace BK657 := am (blk_below (g := gb657) (o := .cells #[.int .i64 t648, .int .i64 t649, .int .i64 t650, .int .i64 t651, .int .i64 t652, .int .i64 t653, .int .i64 t654, .int .i64 t655] 37 (0, 0)) (by refine bB ?_; refine blk_put (cs := #[.int .i64 t648, .int .i64 t649, .int .i64 t650, .int .i64 t651, .int .i64 t652, .int .i64 t653, .int .i64 t654, .int .i64 0]) ?_ 7 _ rfl; refine bB ?_; refine blk_put (cs := #[.int .i64 t648, .int .i64 t649, .int .i64 t650, .int .i64 t651, .int .i64 t652, .int .i64 t653, .int .i64 0, .int .i64 0]) ?_ 6 _ rfl; refine bB ?_; refine blk_put (cs := #[.int .i64 t648, .int .i64 t649, .int .i64 t650, .int .i64 t651, .int .i64 t652, .int .i64 0, .int .i64 0, .int .i64 0]) ?_ 5 _ rfl; refine bB ?_; refine blk_put (cs := #[.int .i64 t648, .int .i64 t649, .int .i64 t650, .int .i64 t651, .int .i64 0, .int .i64 0, .int .i64 0, .int .i64 0]) ?_ 4 _ rfl; refine bB ?_; refine blk_put (cs := #[.int .i64 t648, .int .i64 t649, .int .i64 t650, .int .i64 0, .int .i64 0, .int .i64 0, .int .i64 0, .int .i64 0]) ?_ 3 _ rfl; refine bB ?_; refine blk_put (cs := #[.int .i64 t648, .int .i64 t649, .int .i64 0, .int .i64 0, .int .i64 0, .int .i64 0, .int .i64 0, .int .i64 0]) ?_ 2 _ rfl; refine bB ?_; refine blk_put (cs := #[.int .i64 t648, .int .i64 0, .int .i64 0, .int .i64 0, .int .i64 0, .int .i64 0, .int .i64 0, .int .i64 0]) ?_ 1 _ rfl; refine bB ?_; refine blk_put (cs := #[.int .i64 0, .int .i64 0, .int .i64 0, .int .i64 0, .int .i64 0, .int .i64 0, .int .i64 0, .int .i64 0]) ?_ 0 _ rfl; refine bB ?_; exact BK657.out) hb); replace HB := am (below_step (sB HB.out) hb); (try clear hb); (try clear hb2); (try clear hk); (try clear hi)))
  (try simp only [Act.put, List.setIfInBounds_toArray, List.set_cons_zero, List.set_cons_succ])
  go_cut [50] (fun v50 wc => ∃ (kq : Nat) (x50_7 : Bool), v50 = .bool x50_7 ∧ Aside0 (laws_FnCompiled.j0 kq l0 t634 x50_7 t641 t644 = some r) ∧ Aside0 (kq ≤ k) ∧ Aside0 (Kd.R k37 37 wc w.heap.size (fun k_ => some k_ ≠ ((.slice Ao15 t641.length co15) : Value).ownBlock ∧ k_ ≠ gb657) (.slice Ao12 t634.length co12) t634) ∧ Aside0 (Kd.R k37 37 wc w.heap.size (fun k_ => some k_ ≠ ((.slice Ao12 t634.length co12) : Value).ownBlock ∧ k_ ≠ gb657) (.slice Ao15 t641.length co15) t641) ∧ Aside0 (Kd.S (Kd.slice 37 k37) 24 wc w.heap.size (fun k_ => some k_ ≠ ((.slice Ao12 t634.length co12) : Value).ownBlock ∧ some k_ ≠ ((.slice Ao15 t641.length co15) : Value).ownBlock ∧ k_ ≠ gb657) (.slice Ao18 t644.length co18) t644) ∧ Aside0 (wc.heap[gb640]? = some (.cells #[.int .i64 t637, .int .i64 t638, .int .i64 t639] 28 (0, 0))) ∧ Aside0 (wc.heap[gb647]? = some (.cells #[(.slice Ao15 t641.length co15), (.slice Ao18 t644.length co18)] 33 (0, 0))) ∧ Aside0 (wc.heap[gb657]? = some (.cells #[.int .i64 t648, .int .i64 t649, .int .i64 t650, .int .i64 t651, .int .i64 t652, .int .i64 t653, .int .i64 t654, .int .i64 t655] 37 (0, 0))) ∧ Aside0 (Below w.heap.size w wc))
  case first =>
   have H := HC8.out
   clear HC8
   by_cases c27 : (t656 != (decide (t658 ≥ 0))) = true
   ·rw [if_pos c27] at H
    have c27b0 : (t656 != (decide (t658 ≥ 0))) = true := c27
    (try (have c27b1 : decide (t656 = (decide (t658 ≥ 0))) = false := by simpa using c27))
    (try (have c27b2 : (t656 == (decide (t658 ≥ 0))) = false := by simpa using c27))
    (try (have c27b3 : ¬ (t656 = (decide (t658 ≥ 0))) := by simpa using c27))
    clear c27
    (first | rw [c27b0] | (simp only [i64_w, i32_w]; rw [c27b0]) | skip)
    have H' := Aside0.mk H
    clear H
    try go_wp2
    replace HO636 := am (Kd.R_drew HO636.out)
    replace HO643 := am (Kd.R_drew HO643.out)
    replace HO646 := am (Kd.S_drew HO646.out)
    replace BK640 := am (blk_drew BK640.out)
    replace BK647 := am (blk_drew BK647.out)
    replace BK657 := am (blk_drew BK657.out)
    replace HB := am (below_drew1 HB.out)
    refine start_ (n := 22) (S := fun w' => True) (ds := []) #[z,z,z,z,z,z,z,z,z,z,z,z,z,z,z,z,z,z,z,z,z,z] (by kernel_rfl) rfl rfl trivial (fun hHeld => ?_); refine with_tabW laws_FnCompiled.tab7 laws_FnCompiled.bits7 (fun HT_ HW_ => ?_)
    generalize w26.drew = w28 at HO636 HO643 HO646 BK640 BK647 BK657 HB hHeld ⊢
    refine pure_ (i := 0) (N := some 29) (v := ?_) (a' := ?_) #[o,z,z,z,z,z,z,z,z,z,z,z,z,z,z,z,z,z,z,z,z,z] rfl rfl (any_of HT_.out (by kernel_rfl)) (fun _ _ _ h => h) (Or.inl ⟨by rfl, ?_⟩) ?_ ?_
    rotate_left
    ·intro w'
     go_simp
     with_reducible rfl
    rotate_left
    ·simp only [Act.put, qa, qb, qc, i64_w, i32_w]
     rfl
    refine pure_ (i := 1) (N := some 30) (v := ?_) (a' := ?_) #[o,o,z,z,z,z,z,z,z,z,z,z,z,z,z,z,z,z,z,z,z,z] rfl rfl (any_of HT_.out (by kernel_rfl)) (fun _ _ _ h => h) (Or.inl ⟨by rfl, ?_⟩) ?_ ?_
    rotate_left
    ·intro w'
     go_simp
     with_reducible rfl
    rotate_left
    ·simp only [Act.put, qa, qb, qc, i64_w, i32_w]
     rfl
    refine pure_ (i := 2) (N := some 31) (v := ?_) (a' := ?_) #[o,o,o,z,z,z,z,z,z,z,z,z,z,z,z,z,z,z,z,z,z,z] rfl rfl (any_of HT_.out (by kernel_rfl)) (fun _ _ _ h => h) (Or.inl ⟨by rfl, ?_⟩) ?_ ?_
    rotate_left
    ·intro w'
     go_simp
     with_reducible rfl
    rotate_left
    ·simp only [Act.put, qa, qb, qc, i64_w, i32_w]
     rfl
    refine pure_ (i := 3) (N := some 32) (v := ?_) (a' := ?_) #[o,o,o,o,z,z,z,z,z,z,z,z,z,z,z,z,z,z,z,z,z,z] rfl rfl (any_of HT_.out (by kernel_rfl)) (fun _ _ _ h => h) (Or.inl ⟨by rfl, ?_⟩) ?_ ?_
    rotate_left
    ·intro w'
     go_simp
     with_reducible rfl
    rotate_left
    ·simp only [Act.put, qa, qb, qc, i64_w, i32_w]
     rfl
    refine pure_ (i := 4) (N := some 33) (v := ?_) (a' := ?_) #[o,o,o,o,o,z,z,z,z,z,z,z,z,z,z,z,z,z,z,z,z,z] rfl rfl (any_of HT_.out (by kernel_rfl)) (fun _ _ _ h => h) (Or.inl ⟨by rfl, ?_⟩) ?_ ?_
    rotate_left
    ·intro w'
     go_simp
     with_reducible rfl
    rotate_left
    ·simp only [Act.put, qa, qb, qc, i64_w, i32_w]
     rfl
    refine pure_ (i := 5) (N := some 34) (v := undef) (a' := ?_) #[o,o,o,o,o,o,z,z,z,z,z,z,z,z,z,z,z,z,z,z,z,z] rfl rfl (any_of HT_.out (by kernel_rfl)) (fun _ _ _ h => h) (Or.inr ⟨by rfl, rfl⟩) ?_ ?_
    rotate_left
    ·simp only [Act.put, qa, qb, qc, i64_w, i32_w]
     rfl
    refine pure_ (i := 6) (N := some 35) (v := undef) (a' := ?_) #[o,o,o,o,o,o,o,z,z,z,z,z,z,z,z,z,z,z,z,z,z,z] rfl rfl (any_of HT_.out (by kernel_rfl)) (fun _ _ _ h => h) (Or.inr ⟨by rfl, rfl⟩) ?_ ?_
    rotate_left
    ·simp only [Act.put, qa, qb, qc, i64_w, i32_w]
     rfl
    refine pure_ (i := 7) (N := some 36) (v := undef) (a' := ?_) #[o,o,o,o,o,o,o,o,z,z,z,z,z,z,z,z,z,z,z,z,z,z] rfl rfl (any_of HT_.out (by kernel_rfl)) (fun _ _ _ h => h) (Or.inr ⟨by rfl, rfl⟩) ?_ ?_
    rotate_left
    ·simp only [Act.put, qa, qb, qc, i64_w, i32_w]
     rfl
    refine pure_ (i := 8) (N := some 37) (v := undef) (a' := ?_) #[o,o,o,o,o,o,o,o,o,z,z,z,z,z,z,z,z,z,z,z,z,z] rfl rfl (any_of HT_.out (by kernel_rfl)) (fun _ _ _ h => h) (Or.inr ⟨by rfl, rfl⟩) ?_ ?_
    rotate_left
    ·simp only [Act.put, qa, qb, qc, i64_w, i32_w]
     rfl
    refine pure_ (i := 9) (N := some 38) (v := undef) (a' := ?_) #[o,o,o,o,o,o,o,o,o,o,z,z,z,z,z,z,z,z,z,z,z,z] rfl rfl (any_of HT_.out (by kernel_rfl)) (fun _ _ _ h => h) (Or.inr ⟨by rfl, rfl⟩) ?_ ?_
    rotate_left
    ·simp only [Act.put, qa, qb, qc, i64_w, i32_w]
     rfl
    refine pure_ (i := 10) (N := some 39) (v := undef) (a' := ?_) #[o,o,o,o,o,o,o,o,o,o,o,z,z,z,z,z,z,z,z,z,z,z] rfl rfl (any_of HT_.out (by kernel_rfl)) (fun _ _ _ h => h) (Or.inr ⟨by rfl, rfl⟩) ?_ ?_
    rotate_left
    ·simp only [Act.put, qa, qb, qc, i64_w, i32_w]
     rfl
    refine pure_ (i := 11) (N := some 40) (v := undef) (a' := ?_) #[o,o,o,o,o,o,o,o,o,o,o,o,z,z,z,z,z,z,z,z,z,z] rfl rfl (any_of HT_.out (by kernel_rfl)) (fun _ _ _ h => h) (Or.inr ⟨by rfl, rfl⟩) ?_ ?_
    rotate_left
    ·simp only [Act.put, qa, qb, qc, i64_w, i32_w]
     rfl
    refine pure_ (i := 12) (N := some 41) (v := undef) (a' := ?_) #[o,o,o,o,o,o,o,o,o,o,o,o,o,z,z,z,z,z,z,z,z,z] rfl rfl (any_of HT_.out (by kernel_rfl)) (fun _ _ _ h => h) (Or.inr ⟨by rfl, rfl⟩) ?_ ?_
    rotate_left
    ·simp only [Act.put, qa, qb, qc, i64_w, i32_w]
     rfl
    refine pure_ (i := 13) (N := some 42) (v := undef) (a' := ?_) #[o,o,o,o,o,o,o,o,o,o,o,o,o,o,z,z,z,z,z,z,z,z] rfl rfl (any_of HT_.out (by kernel_rfl)) (fun _ _ _ h => h) (Or.inr ⟨by rfl, rfl⟩) ?_ ?_
    rotate_left
    ·simp only [Act.put, qa, qb, qc, i64_w, i32_w]
     rfl
    refine pure_ (i := 14) (N := some 43) (v := undef) (a' := ?_) #[o,o,o,o,o,o,o,o,o,o,o,o,o,o,o,z,z,z,z,z,z,z] rfl rfl (any_of HT_.out (by kernel_rfl)) (fun _ _ _ h => h) (Or.inr ⟨by rfl, rfl⟩) ?_ ?_
    rotate_left
    ·simp only [Act.put, qa, qb, qc, i64_w, i32_w]
     rfl
    refine pure_ (i := 15) (N := some 44) (v := undef) (a' := ?_) #[o,o,o,o,o,o,o,o,o,o,o,o,o,o,o,o,z,z,z,z,z,z] rfl rfl (any_of HT_.out (by kernel_rfl)) (fun _ _ _ h => h) (Or.inr ⟨by rfl, rfl⟩) ?_ ?_
    rotate_left
    ·simp only [Act.put, qa, qb, qc, i64_w, i32_w]
     rfl
    refine pure_ (i := 16) (N := some 45) (v := undef) (a' := ?_) #[o,o,o,o,o,o,o,o,o,o,o,o,o,o,o,o,o,z,z,z,z,z] rfl rfl (any_of HT_.out (by kernel_rfl)) (fun _ _ _ h => h) (Or.inr ⟨by rfl, rfl⟩) ?_ ?_
    rotate_left
    ·simp only [Act.put, qa, qb, qc, i64_w, i32_w]
     rfl
    refine pure_ (i := 17) (N := some 46) (v := undef) (a' := ?_) #[o,o,o,o,o,o,o,o,o,o,o,o,o,o,o,o,o,o,z,z,z,z] rfl rfl (any_of HT_.out (by kernel_rfl)) (fun _ _ _ h => h) (Or.inr ⟨by rfl, rfl⟩) ?_ ?_
    rotate_left
    ·simp only [Act.put, qa, qb, qc, i64_w, i32_w]
     rfl
    refine pure_ (i := 18) (N := some 47) (v := undef) (a' := ?_) #[o,o,o,o,o,o,o,o,o,o,o,o,o,o,o,o,o,o,o,z,z,z] rfl rfl (any_of HT_.out (by kernel_rfl)) (fun _ _ _ h => h) (Or.inr ⟨by rfl, rfl⟩) ?_ ?_
    rotate_left
    ·simp only [Act.put, qa, qb, qc, i64_w, i32_w]
     rfl
    refine pure_ (i := 19) (N := some 48) (v := undef) (a' := ?_) #[o,o,o,o,o,o,o,o,o,o,o,o,o,o,o,o,o,o,o,o,z,z] rfl rfl (any_of HT_.out (by kernel_rfl)) (fun _ _ _ h => h) (Or.inr ⟨by rfl, rfl⟩) ?_ ?_
    rotate_left
    ·simp only [Act.put, qa, qb, qc, i64_w, i32_w]
     rfl
    refine pure_ (i := 20) (N := some 49) (v := undef) (a' := ?_) #[o,o,o,o,o,o,o,o,o,o,o,o,o,o,o,o,o,o,o,o,o,z] rfl rfl (any_of HT_.out (by kernel_rfl)) (fun _ _ _ h => h) (Or.inr ⟨by rfl, rfl⟩) ?_ ?_
    rotate_left
    ·simp only [Act.put, qa, qb, qc, i64_w, i32_w]
     rfl
    refine pure_ (i := 21) (N := some 50) (v := ?_) (a' := ?_) #[o,o,o,o,o,o,o,o,o,o,o,o,o,o,o,o,o,o,o,o,o,o] rfl rfl (any_of HT_.out (by kernel_rfl)) (fun _ _ _ h => h) (Or.inl ⟨by rfl, ?_⟩) ?_ ?_
    rotate_left
    ·intro w'
     go_simp
     with_reducible rfl
    rotate_left
    ·simp only [Act.put, qa, qb, qc, i64_w, i32_w]
     rfl
    refine done_ (done_of HT_.out (by kernel_rfl)) ?_
    try go_wp2
    go_meet
    case rel => exact ⟨_, (true), (by first | rfl | (simp; done) | (simp [*]; done)), H', ⟨by first | omega | exact Nat.le_refl _⟩, ⟨by (with_reducible repeat (first | apply Kd.R_alloc | apply Kd.R_drewN | apply Kd.R_drew)); exact Kd.R_mono HO636.out (fun _ hk => ⟨hk.1.2, hk.2⟩)⟩, ⟨by (with_reducible repeat (first | apply Kd.R_alloc | apply Kd.R_drewN | apply Kd.R_drew)); exact Kd.R_mono HO643.out (fun _ hk => ⟨hk.1.2, hk.2⟩)⟩, ⟨by (with_reducible repeat (first | apply Kd.S_alloc | apply Kd.S_drewN | apply Kd.S_drew)); exact Kd.S_mono HO646.out (fun _ hk => ⟨hk.1.2, ⟨hk.1.1, hk.2⟩⟩)⟩, ⟨bB BK640.out⟩, ⟨bB BK647.out⟩, ⟨bB BK657.out⟩, ⟨sB HB.out⟩⟩
   ·rw [if_neg c27] at H
    have c27b0 : (t656 != (decide (t658 ≥ 0))) = false := by simpa using c27
    (try (have c27b1 : decide (t656 = (decide (t658 ≥ 0))) = true := by simpa using c27))
    (try (have c27b2 : (t656 == (decide (t658 ≥ 0))) = true := by simpa using c27))
    clear c27
    (first | rw [c27b0] | (simp only [i64_w, i32_w]; rw [c27b0]) | skip)
    by_cases c29 : t656 = true
    ·subst c29
     have H1 : (if 0 ≤ t658 then (if t658 < (t634.length : Int) then ((laws_sameRule.f t648 t649 t650 t651 t652 t653 t654 t655 ((rd_T37 t634 t658).f0) ((rd_T37 t634 t658).f1) ((rd_T37 t634 t658).f2.f0) ((rd_T37 t634 t658).f2.f1) ((rd_T37 t634 t658).f3) ((rd_T37 t634 t658).f4) ((rd_T37 t634 t658).f5.f0) ((rd_T37 t634 t658).f5.f1)).bind fun t660 => (if t660 = true then ((impl_Applies.f k t648 t649 t650 t651 t652 t653 t654 t655 t637 t638 t639).bind fun t661 => (laws_FnCompiled.j0 k l0 t634 (!t661) t641 t644)) else (laws_FnCompiled.j0 k l0 t634 true t641 t644))) else (none)) else (none)) = some r := by rw [if_pos rfl] at H; exact H
     clear H
     have H := H1
     clear H1
     by_cases c30 : 0 ≤ t658
     ·rw [if_pos c30] at H
      have c30b0 : decide (0 ≤ t658) = true := decide_eq_true c30
      clear c30
      by_cases c31 : t658 < (t634.length : Int)
      ·rw [if_pos c31] at H
       have c31b0 : decide (t658 < (t634.length : Int)) = true := decide_eq_true c31
       clear c31
       replace H := Option.bind_eq_some_iff.mp H
       obtain ⟨t660, A320, H⟩ := H
       replace H : (if t660 = true then ((impl_Applies.f k t648 t649 t650 t651 t652 t653 t654 t655 t637 t638 t639).bind fun t661 => (laws_FnCompiled.j0 k l0 t634 (!t661) t641 t644)) else (laws_FnCompiled.j0 k l0 t634 true t641 t644)) = some r := H
       have A32 := Aside0.mk A320
       clear A320
       by_cases c33 : t660 = true
       ·subst c33
        have H1 : ((impl_Applies.f k t648 t649 t650 t651 t652 t653 t654 t655 t637 t638 t639).bind fun t661 => (laws_FnCompiled.j0 k l0 t634 (!t661) t641 t644)) = some r := by rw [if_pos rfl] at H; exact H
        clear H
        have H := H1
        clear H1
        replace H := Option.bind_eq_some_iff.mp H
        obtain ⟨t661, A340, H⟩ := H
        replace H : (laws_FnCompiled.j0 k l0 t634 (!t661) t641 t644) = some r := H
        have A34 := Aside0.mk A340
        clear A340
        have H' := Aside0.mk H
        clear H
        try go_wp2
        replace HO636 := am (Kd.R_drew HO636.out)
        replace HO643 := am (Kd.R_drew HO643.out)
        replace HO646 := am (Kd.S_drew HO646.out)
        replace BK640 := am (blk_drew BK640.out)
        replace BK647 := am (blk_drew BK647.out)
        replace BK657 := am (blk_drew BK657.out)
        replace HB := am (below_drew1 HB.out)
        have p659 : 0 ≤ (t658 : Int) := of_decide_eq_true (by first | (with_reducible assumption) | assumption)
        have q659 : t658 < (t634.length : Int) := of_decide_eq_true (by first | (with_reducible assumption) | assumption)
        obtain ⟨ad659, e659, hx659_0, hx659_1, hx659_2, hx659_3, hx659_4, hx659_5, hx659_6, hx659_7⟩ := at_T37 (Kd.R_reads' HO636.out).2.2 t658 p659 q659
        cases e659
        replace p659 := eq_true p659
        replace q659 := eq_true q659
        refine start_ (n := 22) (S := fun w' => w'.cell? ⟨gb657, 0, none⟩ = some (.int .i64 t648) ∧ w'.cell? ⟨gb657, 1, none⟩ = some (.int .i64 t649) ∧ w'.cell? ⟨gb657, 2, none⟩ = some (.int .i64 t650) ∧ w'.cell? ⟨gb657, 3, none⟩ = some (.int .i64 t651) ∧ w'.cell? ⟨gb657, 4, none⟩ = some (.int .i64 t652) ∧ w'.cell? ⟨gb657, 5, none⟩ = some (.int .i64 t653) ∧ w'.cell? ⟨gb657, 6, none⟩ = some (.int .i64 t654) ∧ w'.cell? ⟨gb657, 7, none⟩ = some (.int .i64 t655) ∧ w'.cell? ⟨gb640, 0, none⟩ = some (.int .i64 t637) ∧ w'.cell? ⟨gb640, 1, none⟩ = some (.int .i64 t638) ∧ w'.cell? ⟨gb640, 2, none⟩ = some (.int .i64 t639) ∧ w'.cell? (ad659.add ((t658).toNat * 8)) = some (.int .i64 ((rd_T37 t634 t658).f0)) ∧ w'.cell? ⟨(ad659.add ((t658).toNat * 8)).block, (ad659.add ((t658).toNat * 8)).off + 1, none⟩ = some (.int .i64 ((rd_T37 t634 t658).f1)) ∧ w'.cell? ⟨(ad659.add ((t658).toNat * 8)).block, (ad659.add ((t658).toNat * 8)).off + 2, none⟩ = some (.int .i64 ((rd_T37 t634 t658).f2.f0)) ∧ w'.cell? ⟨(ad659.add ((t658).toNat * 8)).block, (ad659.add ((t658).toNat * 8)).off + 3, none⟩ = some (.int .i64 ((rd_T37 t634 t658).f2.f1)) ∧ w'.cell? ⟨(ad659.add ((t658).toNat * 8)).block, (ad659.add ((t658).toNat * 8)).off + 4, none⟩ = some (.int .i64 ((rd_T37 t634 t658).f3)) ∧ w'.cell? ⟨(ad659.add ((t658).toNat * 8)).block, (ad659.add ((t658).toNat * 8)).off + 5, none⟩ = some (.int .i64 ((rd_T37 t634 t658).f4)) ∧ w'.cell? ⟨(ad659.add ((t658).toNat * 8)).block, (ad659.add ((t658).toNat * 8)).off + 6, none⟩ = some (.int .i64 ((rd_T37 t634 t658).f5.f0)) ∧ w'.cell? ⟨(ad659.add ((t658).toNat * 8)).block, (ad659.add ((t658).toNat * 8)).off + 7, none⟩ = some (.int .i64 ((rd_T37 t634 t658).f5.f1))) (ds := []) #[z,z,z,z,z,z,z,z,z,z,z,z,z,z,z,z,z,z,z,z,z,z] (by kernel_rfl) rfl rfl ⟨(blk_cell BK657.out 0).trans rfl, (blk_cell BK657.out 1).trans rfl, (blk_cell BK657.out 2).trans rfl, (blk_cell BK657.out 3).trans rfl, (blk_cell BK657.out 4).trans rfl, (blk_cell BK657.out 5).trans rfl, (blk_cell BK657.out 6).trans rfl, (blk_cell BK657.out 7).trans rfl, (blk_cell BK640.out 0).trans rfl, (blk_cell BK640.out 1).trans rfl, (blk_cell BK640.out 2).trans rfl, hx659_0, hx659_1, hx659_2, hx659_3, hx659_4, hx659_5, hx659_6, hx659_7⟩ (fun hHeld => ?_); refine with_tabW laws_FnCompiled.tab7 laws_FnCompiled.bits7 (fun HT_ HW_ => ?_)
        generalize w26.drew = w35 at HO636 HO643 HO646 BK640 BK647 BK657 HB hx659_0 hx659_1 hx659_2 hx659_3 hx659_4 hx659_5 hx659_6 hx659_7 hHeld ⊢
        refine pure_ (i := 0) (N := some 29) (v := ?_) (a' := ?_) #[o,z,z,z,z,z,z,z,z,z,z,z,z,z,z,z,z,z,z,z,z,z] rfl rfl (any_of HT_.out (by kernel_rfl)) (fun _ _ _ h => h) (Or.inl ⟨by rfl, ?_⟩) ?_ ?_
        rotate_left
        ·intro w'
         go_simp
         with_reducible rfl
        rotate_left
        ·simp only [Act.put, qa, qb, qc, i64_w, i32_w]
         rfl
        refine pure_ (i := 1) (N := some 30) (v := ?_) (a' := ?_) #[o,o,z,z,z,z,z,z,z,z,z,z,z,z,z,z,z,z,z,z,z,z] rfl rfl (any_of HT_.out (by kernel_rfl)) (fun _ _ _ h => h) (Or.inl ⟨by rfl, ?_⟩) ?_ ?_
        rotate_left
        ·intro w'
         go_simp
         with_reducible rfl
        rotate_left
        ·simp only [Act.put, qa, qb, qc, i64_w, i32_w]
         rfl
        refine pure_ (i := 2) (N := some 31) (v := ?_) (a' := ?_) #[o,o,o,z,z,z,z,z,z,z,z,z,z,z,z,z,z,z,z,z,z,z] rfl rfl (any_of HT_.out (by kernel_rfl)) (fun _ _ _ h => h) (Or.inl ⟨by rfl, ?_⟩) ?_ ?_
        rotate_left
        ·intro w'
         go_simp
         with_reducible rfl
        rotate_left
        ·simp only [Act.put, qa, qb, qc, i64_w, i32_w]
         rfl
        refine pure_ (i := 3) (N := some 32) (v := ?_) (a' := ?_) #[o,o,o,o,z,z,z,z,z,z,z,z,z,z,z,z,z,z,z,z,z,z] rfl rfl (any_of HT_.out (by kernel_rfl)) (fun _ _ _ h => h) (Or.inl ⟨by rfl, ?_⟩) ?_ ?_
        rotate_left
        ·intro w'
         go_simp
         with_reducible rfl
        rotate_left
        ·simp only [Act.put, qa, qb, qc, i64_w, i32_w]
         rfl
        refine pure_ (i := 4) (N := some 33) (v := ?_) (a' := ?_) #[o,o,o,o,o,z,z,z,z,z,z,z,z,z,z,z,z,z,z,z,z,z] rfl rfl (any_of HT_.out (by kernel_rfl)) (fun _ _ _ h => h) (Or.inl ⟨by rfl, ?_⟩) ?_ ?_
        rotate_left
        ·intro w'
         go_simp
         with_reducible rfl
        rotate_left
        ·simp only [Act.put, qa, qb, qc, i64_w, i32_w]
         rfl
        refine pure_ (i := 5) (N := some 34) (v := ?_) (a' := ?_) #[o,o,o,o,o,o,z,z,z,z,z,z,z,z,z,z,z,z,z,z,z,z] rfl rfl (any_of HT_.out (by kernel_rfl)) (fun _ _ _ h => h) (Or.inl ⟨by rfl, ?_⟩) ?_ ?_
        rotate_left
        ·intro w'
         go_simp
         with_reducible rfl
        rotate_left
        ·simp only [Act.put, qa, qb, qc, i64_w, i32_w]
         rfl
        refine pure_ (i := 6) (N := some 35) (v := ?_) (a' := ?_) #[o,o,o,o,o,o,o,z,z,z,z,z,z,z,z,z,z,z,z,z,z,z] rfl rfl (any_of HT_.out (by kernel_rfl)) (fun _ _ _ h => h) (Or.inl ⟨by rfl, ?_⟩) ?_ ?_
        rotate_left
        ·intro w'
         go_simp
         with_reducible rfl
        rotate_left
        ·simp only [Act.put, qa, qb, qc, i64_w, i32_w]
         rfl
        refine pure_ (i := 8) (N := some 37) (v := ?_) (a' := ?_) #[o,o,o,o,o,o,o,z,o,z,z,z,z,z,z,z,z,z,z,z,z,z] rfl rfl (any_of HT_.out (by kernel_rfl)) (fun _ _ _ h => h) (Or.inl ⟨by rfl, ?_⟩) ?_ ?_
        rotate_left
        ·intro w'
         go_simp
         with_reducible rfl
        rotate_left
        ·simp only [Act.put, qa, qb, qc, i64_w, i32_w]
         rfl
        refine pure_ (i := 9) (N := some 38) (v := ?_) (a' := ?_) #[o,o,o,o,o,o,o,z,o,o,z,z,z,z,z,z,z,z,z,z,z,z] rfl rfl (any_of HT_.out (by kernel_rfl)) (fun _ _ _ h => h) (Or.inl ⟨by rfl, ?_⟩) ?_ ?_
        rotate_left
        ·intro w'
         go_simp
         with_reducible rfl
        rotate_left
        ·simp only [Act.put, qa, qb, qc, i64_w, i32_w]
         rfl
        refine pure_ (i := 10) (N := some 39) (v := ?_) (a' := ?_) #[o,o,o,o,o,o,o,z,o,o,o,z,z,z,z,z,z,z,z,z,z,z] rfl rfl (any_of HT_.out (by kernel_rfl)) (fun _ _ _ h => h) (Or.inl ⟨by rfl, ?_⟩) ?_ ?_
        rotate_left
        ·intro w'
         go_simp
         with_reducible rfl
        rotate_left
        ·simp only [Act.put, qa, qb, qc, i64_w, i32_w]
         rfl
        refine take_ (i := 7) (N := some 36) (v := ?_) (a' := ?_) #[o,o,o,o,o,o,o,o,o,o,o,z,z,z,z,z,z,z,z,z,z,z] rfl rfl (take_ofW HT_.out HW_.out (by kernel_rfl)) (fun _ _ _ h => h) (Or.inl ⟨by rfl, ?_⟩) hHeld ?_ ?_
        rotate_left
        ·rintro w' ⟨s0, s1, s2, s3, s4, s5, s6, s7, s8, s9, s10, s11, s12, s13, s14, s15, s16, s17, s18⟩
         go_simp
         with_reducible rfl
        rotate_left
        ·simp only [Act.put, qa, qb, qc, i64_w, i32_w]
         rfl
        refine take_ (i := 11) (N := some 40) (v := ?_) (a' := ?_) #[o,o,o,o,o,o,o,o,o,o,o,o,z,z,z,z,z,z,z,z,z,z] rfl rfl (take_ofW HT_.out HW_.out (by kernel_rfl)) (fun _ _ _ h => h) (Or.inl ⟨by rfl, ?_⟩) hHeld ?_ ?_
        rotate_left
        ·rintro w' ⟨s0, s1, s2, s3, s4, s5, s6, s7, s8, s9, s10, s11, s12, s13, s14, s15, s16, s17, s18⟩
         go_simp
         with_reducible rfl
        rotate_left
        ·simp only [Act.put, qa, qb, qc, i64_w, i32_w]
         rfl
        refine one_ (i := 12) (N := some 41) #[o,o,o,o,o,o,o,o,o,o,o,o,o,z,z,z,z,z,z,z,z,z] rfl rfl (one_of HT_.out (by kernel_rfl)) (by decide) (fun K hK => ?_)
        refine goes_ Try.func12 (by kernel_rfl) rfl #[.agg #[.int .i64 t648, .int .i64 t649, .int .i64 t650, .int .i64 t651, .int .i64 t652, .int .i64 t653, .int .i64 t654, .int .i64 t655], .agg #[.int .i64 ((rd_T37 t634 t658).f0), .int .i64 ((rd_T37 t634 t658).f1), .int .i64 ((rd_T37 t634 t658).f2.f0), .int .i64 ((rd_T37 t634 t658).f2.f1), .int .i64 ((rd_T37 t634 t658).f3), .int .i64 ((rd_T37 t634 t658).f4), .int .i64 ((rd_T37 t634 t658).f5.f0), .int .i64 ((rd_T37 t634 t658).f5.f1)]] (by rfl) rfl rfl (by (try simp only [List.map_toArray, List.map_cons, List.map_nil]); first | done | rfl | (simp only [List.length_drop, List.length_take]; rfl)) ?_
        with_reducible refine (laws_sameRule.calls t648 t649 t650 t651 t652 t653 t654 t655 ((rd_T37 t634 t658).f0) ((rd_T37 t634 t658).f1) ((rd_T37 t634 t658).f2.f0) ((rd_T37 t634 t658).f2.f1) ((rd_T37 t634 t658).f3) ((rd_T37 t634 t658).f4) ((rd_T37 t634 t658).f5.f0) ((rd_T37 t634 t658).f5.f1) true _ A32.out).mono ?_
        rintro e w36 ⟨rfl, hb⟩
        have HS11_ := (hb.cell (World.block_lt_of_cell? _ _ (hHeld.2.2.2.2.2.2.2.2.2.2.2.1))).trans (hHeld.2.2.2.2.2.2.2.2.2.2.2.1)
        have HS12_ := (hb.cell (World.block_lt_of_cell? _ _ (hHeld.2.2.2.2.2.2.2.2.2.2.2.2.1))).trans (hHeld.2.2.2.2.2.2.2.2.2.2.2.2.1)
        have HS13_ := (hb.cell (World.block_lt_of_cell? _ _ (hHeld.2.2.2.2.2.2.2.2.2.2.2.2.2.1))).trans (hHeld.2.2.2.2.2.2.2.2.2.2.2.2.2.1)
        have HS14_ := (hb.cell (World.block_lt_of_cell? _ _ (hHeld.2.2.2.2.2.2.2.2.2.2.2.2.2.2.1))).trans (hHeld.2.2.2.2.2.2.2.2.2.2.2.2.2.2.1)
        have HS15_ := (hb.cell (World.block_lt_of_cell? _ _ (hHeld.2.2.2.2.2.2.2.2.2.2.2.2.2.2.2.1))).trans (hHeld.2.2.2.2.2.2.2.2.2.2.2.2.2.2.2.1)
        have HS16_ := (hb.cell (World.block_lt_of_cell? _ _ (hHeld.2.2.2.2.2.2.2.2.2.2.2.2.2.2.2.2.1))).trans (hHeld.2.2.2.2.2.2.2.2.2.2.2.2.2.2.2.2.1)
        have HS17_ := (hb.cell (World.block_lt_of_cell? _ _ (hHeld.2.2.2.2.2.2.2.2.2.2.2.2.2.2.2.2.2.1))).trans (hHeld.2.2.2.2.2.2.2.2.2.2.2.2.2.2.2.2.2.1)
        have HS18_ := (hb.cell (World.block_lt_of_cell? _ _ (hHeld.2.2.2.2.2.2.2.2.2.2.2.2.2.2.2.2.2.2))).trans (hHeld.2.2.2.2.2.2.2.2.2.2.2.2.2.2.2.2.2.2)
        refine ⟨_, rfl, ?_⟩
        replace HO636 := am (Kd.R_below (rB HO636.out) hb)
        replace HO643 := am (Kd.R_below (rB HO643.out) hb)
        replace HO646 := am (Kd.S_below (by (with_reducible repeat (first | apply Kd.S_alloc | apply Kd.S_drewN | apply Kd.S_drew)); exact HO646.out) hb)
        replace BK640 := am (blk_below (bB BK640.out) hb)
        replace BK647 := am (blk_below (bB BK647.out) hb)
        replace BK657 := am (blk_below (bB BK657.out) hb)
        replace HB := am (below_step (sB HB.out) hb)
        (try clear hb)
        (try clear hb2)
        (try clear hk)
        (try clear hi)
        refine hK.out _ _ ⟨(blk_cell BK657.out 0).trans rfl, (blk_cell BK657.out 1).trans rfl, (blk_cell BK657.out 2).trans rfl, (blk_cell BK657.out 3).trans rfl, (blk_cell BK657.out 4).trans rfl, (blk_cell BK657.out 5).trans rfl, (blk_cell BK657.out 6).trans rfl, (blk_cell BK657.out 7).trans rfl, (blk_cell BK640.out 0).trans rfl, (blk_cell BK640.out 1).trans rfl, (blk_cell BK640.out 2).trans rfl, HS11_, HS12_, HS13_, HS14_, HS15_, HS16_, HS17_, HS18_⟩ (fun hHeld => ?_)
        clear hK K
        refine norm_ (a' := ?_) ?_ ?_
        rotate_left
        ·show Act.put _ (some 41) _ = _
         simp only [Act.put, qa, qb, qc, i64_w, i32_w]
         rfl
        refine pure_ (i := 13) (N := some 42) (v := ?_) (a' := ?_) #[o,o,o,o,o,o,o,o,o,o,o,o,o,o,z,z,z,z,z,z,z,z] rfl rfl (any_of HT_.out (by kernel_rfl)) (fun _ _ _ h => h) (Or.inl ⟨by rfl, ?_⟩) ?_ ?_
        rotate_left
        ·intro w'
         go_simp
         with_reducible rfl
        rotate_left
        ·simp only [Act.put, qa, qb, qc, i64_w, i32_w]
         rfl
        refine pure_ (i := 14) (N := some 43) (v := ?_) (a' := ?_) #[o,o,o,o,o,o,o,o,o,o,o,o,o,o,o,z,z,z,z,z,z,z] rfl rfl (any_of HT_.out (by kernel_rfl)) (fun _ _ _ h => h) (Or.inl ⟨by rfl, ?_⟩) ?_ ?_
        rotate_left
        ·intro w'
         go_simp
         with_reducible rfl
        rotate_left
        ·simp only [Act.put, qa, qb, qc, i64_w, i32_w]
         rfl
        refine take_ (i := 15) (N := some 44) (v := ?_) (a' := ?_) #[o,o,o,o,o,o,o,o,o,o,o,o,o,o,o,o,z,z,z,z,z,z] rfl rfl (take_ofW HT_.out HW_.out (by kernel_rfl)) (fun _ _ _ h => h) (Or.inl ⟨by rfl, ?_⟩) hHeld ?_ ?_
        rotate_left
        ·rintro w' ⟨s0, s1, s2, s3, s4, s5, s6, s7, s8, s9, s10, s11, s12, s13, s14, s15, s16, s17, s18⟩
         go_simp
         with_reducible rfl
        rotate_left
        ·simp only [Act.put, qa, qb, qc, i64_w, i32_w]
         rfl
        refine take_ (i := 16) (N := some 45) (v := ?_) (a' := ?_) #[o,o,o,o,o,o,o,o,o,o,o,o,o,o,o,o,o,z,z,z,z,z] rfl rfl (take_ofW HT_.out HW_.out (by kernel_rfl)) (fun _ _ _ h => h) (Or.inl ⟨by rfl, ?_⟩) hHeld ?_ ?_
        rotate_left
        ·rintro w' ⟨s0, s1, s2, s3, s4, s5, s6, s7, s8, s9, s10, s11, s12, s13, s14, s15, s16, s17, s18⟩
         go_simp
         with_reducible rfl
        rotate_left
        ·simp only [Act.put, qa, qb, qc, i64_w, i32_w]
         rfl
        refine one_ (i := 17) (N := some 46) #[o,o,o,o,o,o,o,o,o,o,o,o,o,o,o,o,o,o,z,z,z,z] rfl rfl (one_of HT_.out (by kernel_rfl)) (by decide) (fun K hK => ?_)
        refine goes_ Try.func13 (by kernel_rfl) rfl #[.agg #[.int .i64 t648, .int .i64 t649, .int .i64 t650, .int .i64 t651, .int .i64 t652, .int .i64 t653, .int .i64 t654, .int .i64 t655], .agg #[.int .i64 t637, .int .i64 t638, .int .i64 t639]] (by rfl) rfl rfl (by (try simp only [List.map_toArray, List.map_cons, List.map_nil]); first | done | rfl | (simp only [List.length_drop, List.length_take]; rfl)) ?_
        with_reducible refine (impl_Applies.calls k t648 t649 t650 t651 t652 t653 t654 t655 t637 t638 t639 t661 _ A34.out).mono ?_
        rintro e w37 ⟨rfl, hb⟩
        have HS11_ := (hb.cell (World.block_lt_of_cell? _ _ (hHeld.2.2.2.2.2.2.2.2.2.2.2.1))).trans (hHeld.2.2.2.2.2.2.2.2.2.2.2.1)
        have HS12_ := (hb.cell (World.block_lt_of_cell? _ _ (hHeld.2.2.2.2.2.2.2.2.2.2.2.2.1))).trans (hHeld.2.2.2.2.2.2.2.2.2.2.2.2.1)
        have HS13_ := (hb.cell (World.block_lt_of_cell? _ _ (hHeld.2.2.2.2.2.2.2.2.2.2.2.2.2.1))).trans (hHeld.2.2.2.2.2.2.2.2.2.2.2.2.2.1)
        have HS14_ := (hb.cell (World.block_lt_of_cell? _ _ (hHeld.2.2.2.2.2.2.2.2.2.2.2.2.2.2.1))).trans (hHeld.2.2.2.2.2.2.2.2.2.2.2.2.2.2.1)
        have HS15_ := (hb.cell (World.block_lt_of_cell? _ _ (hHeld.2.2.2.2.2.2.2.2.2.2.2.2.2.2.2.1))).trans (hHeld.2.2.2.2.2.2.2.2.2.2.2.2.2.2.2.1)
        have HS16_ := (hb.cell (World.block_lt_of_cell? _ _ (hHeld.2.2.2.2.2.2.2.2.2.2.2.2.2.2.2.2.1))).trans (hHeld.2.2.2.2.2.2.2.2.2.2.2.2.2.2.2.2.1)
        have HS17_ := (hb.cell (World.block_lt_of_cell? _ _ (hHeld.2.2.2.2.2.2.2.2.2.2.2.2.2.2.2.2.2.1))).trans (hHeld.2.2.2.2.2.2.2.2.2.2.2.2.2.2.2.2.2.1)
        have HS18_ := (hb.cell (World.block_lt_of_cell? _ _ (hHeld.2.2.2.2.2.2.2.2.2.2.2.2.2.2.2.2.2.2))).trans (hHeld.2.2.2.2.2.2.2.2.2.2.2.2.2.2.2.2.2.2)
        refine ⟨_, rfl, ?_⟩
        replace HO636 := am (Kd.R_below (rB HO636.out) hb)
        replace HO643 := am (Kd.R_below (rB HO643.out) hb)
        replace HO646 := am (Kd.S_below (by (with_reducible repeat (first | apply Kd.S_alloc | apply Kd.S_drewN | apply Kd.S_drew)); exact HO646.out) hb)
        replace BK640 := am (blk_below (bB BK640.out) hb)
        replace BK647 := am (blk_below (bB BK647.out) hb)
        replace BK657 := am (blk_below (bB BK657.out) hb)
        replace HB := am (below_step (sB HB.out) hb)
        (try clear hb)
        (try clear hb2)
        (try clear hk)
        (try clear hi)
        refine hK.out _ _ ⟨(blk_cell BK657.out 0).trans rfl, (blk_cell BK657.out 1).trans rfl, (blk_cell BK657.out 2).trans rfl, (blk_cell BK657.out 3).trans rfl, (blk_cell BK657.out 4).trans rfl, (blk_cell BK657.out 5).trans rfl, (blk_cell BK657.out 6).trans rfl, (blk_cell BK657.out 7).trans rfl, (blk_cell BK640.out 0).trans rfl, (blk_cell BK640.out 1).trans rfl, (blk_cell BK640.out 2).trans rfl, HS11_, HS12_, HS13_, HS14_, HS15_, HS16_, HS17_, HS18_⟩ (fun hHeld => ?_)
        clear hK K
        refine norm_ (a' := ?_) ?_ ?_
        rotate_left
        ·show Act.put _ (some 46) _ = _
         simp only [Act.put, qa, qb, qc, i64_w, i32_w]
         rfl
        refine pure_ (i := 18) (N := some 47) (v := ?_) (a' := ?_) #[o,o,o,o,o,o,o,o,o,o,o,o,o,o,o,o,o,o,o,z,z,z] rfl rfl (any_of HT_.out (by kernel_rfl)) (fun _ _ _ h => h) (Or.inl ⟨by rfl, ?_⟩) ?_ ?_
        rotate_left
        ·intro w'
         go_simp
         with_reducible rfl
        rotate_left
        ·simp only [Act.put, qa, qb, qc, i64_w, i32_w]
         rfl
        refine pure_ (i := 19) (N := some 48) (v := ?_) (a' := ?_) #[o,o,o,o,o,o,o,o,o,o,o,o,o,o,o,o,o,o,o,o,z,z] rfl rfl (any_of HT_.out (by kernel_rfl)) (fun _ _ _ h => h) (Or.inl ⟨by rfl, ?_⟩) ?_ ?_
        rotate_left
        ·intro w'
         go_simp
         with_reducible rfl
        rotate_left
        ·simp only [Act.put, qa, qb, qc, i64_w, i32_w]
         rfl
        refine pure_ (i := 20) (N := some 49) (v := ?_) (a' := ?_) #[o,o,o,o,o,o,o,o,o,o,o,o,o,o,o,o,o,o,o,o,o,z] rfl rfl (any_of HT_.out (by kernel_rfl)) (fun _ _ _ h => h) (Or.inl ⟨by rfl, ?_⟩) ?_ ?_
        rotate_left
        ·intro w'
         go_simp
         with_reducible rfl
        rotate_left
        ·simp only [Act.put, qa, qb, qc, i64_w, i32_w]
         rfl
        refine pure_ (i := 21) (N := some 50) (v := ?_) (a' := ?_) #[o,o,o,o,o,o,o,o,o,o,o,o,o,o,o,o,o,o,o,o,o,o] rfl rfl (any_of HT_.out (by kernel_rfl)) (fun _ _ _ h => h) (Or.inl ⟨by rfl, ?_⟩) ?_ ?_
        rotate_left
        ·intro w'
         go_simp
         with_reducible rfl
        rotate_left
        ·simp only [Act.put, qa, qb, qc, i64_w, i32_w]
         rfl
        refine done_ (done_of HT_.out (by kernel_rfl)) ?_
        try go_wp2
        go_meet
        case rel => exact ⟨_, (!t661), (by first | rfl | (simp; done) | (simp [*]; done)), H', ⟨by first | omega | exact Nat.le_refl _⟩, ⟨by (with_reducible repeat (first | apply Kd.R_alloc | apply Kd.R_drewN | apply Kd.R_drew)); exact Kd.R_mono HO636.out (fun _ hk => ⟨hk.1.2, hk.2⟩)⟩, ⟨by (with_reducible repeat (first | apply Kd.R_alloc | apply Kd.R_drewN | apply Kd.R_drew)); exact Kd.R_mono HO643.out (fun _ hk => ⟨hk.1.2, hk.2⟩)⟩, ⟨by (with_reducible repeat (first | apply Kd.S_alloc | apply Kd.S_drewN | apply Kd.S_drew)); exact Kd.S_mono HO646.out (fun _ hk => ⟨hk.1.2, ⟨hk.1.1, hk.2⟩⟩)⟩, ⟨bB BK640.out⟩, ⟨bB BK647.out⟩, ⟨bB BK657.out⟩, ⟨sB HB.out⟩⟩
       ·replace c33 := Bool.eq_false_iff.mpr c33
        subst c33
        have H1 : (laws_FnCompiled.j0 k l0 t634 true t641 t644) = some r := by rw [if_neg (show ¬ (false = true) by decide)] at H; exact H
        clear H
        have H := H1
        clear H1
        have H' := Aside0.mk H
        clear H
        try go_wp2
        replace HO636 := am (Kd.R_drew HO636.out)
        replace HO643 := am (Kd.R_drew HO643.out)
        replace HO646 := am (Kd.S_drew HO646.out)
        replace BK640 := am (blk_drew BK640.out)
        replace BK647 := am (blk_drew BK647.out)
        replace BK657 := am (blk_drew BK657.out)
        replace HB := am (below_drew1 HB.out)
        have p659 : 0 ≤ (t658 : Int) := of_decide_eq_true (by first | (with_reducible assumption) | assumption)
        have q659 : t658 < (t634.length : Int) := of_decide_eq_true (by first | (with_reducible assumption) | assumption)
        obtain ⟨ad659, e659, hx659_0, hx659_1, hx659_2, hx659_3, hx659_4, hx659_5, hx659_6, hx659_7⟩ := at_T37 (Kd.R_reads' HO636.out).2.2 t658 p659 q659
        cases e659
        replace p659 := eq_true p659
        replace q659 := eq_true q659
        refine start_ (n := 22) (S := fun w' => w'.cell? ⟨gb657, 0, none⟩ = some (.int .i64 t648) ∧ w'.cell? ⟨gb657, 1, none⟩ = some (.int .i64 t649) ∧ w'.cell? ⟨gb657, 2, none⟩ = some (.int .i64 t650) ∧ w'.cell? ⟨gb657, 3, none⟩ = some (.int .i64 t651) ∧ w'.cell? ⟨gb657, 4, none⟩ = some (.int .i64 t652) ∧ w'.cell? ⟨gb657, 5, none⟩ = some (.int .i64 t653) ∧ w'.cell? ⟨gb657, 6, none⟩ = some (.int .i64 t654) ∧ w'.cell? ⟨gb657, 7, none⟩ = some (.int .i64 t655) ∧ w'.cell? (ad659.add ((t658).toNat * 8)) = some (.int .i64 ((rd_T37 t634 t658).f0)) ∧ w'.cell? ⟨(ad659.add ((t658).toNat * 8)).block, (ad659.add ((t658).toNat * 8)).off + 1, none⟩ = some (.int .i64 ((rd_T37 t634 t658).f1)) ∧ w'.cell? ⟨(ad659.add ((t658).toNat * 8)).block, (ad659.add ((t658).toNat * 8)).off + 2, none⟩ = some (.int .i64 ((rd_T37 t634 t658).f2.f0)) ∧ w'.cell? ⟨(ad659.add ((t658).toNat * 8)).block, (ad659.add ((t658).toNat * 8)).off + 3, none⟩ = some (.int .i64 ((rd_T37 t634 t658).f2.f1)) ∧ w'.cell? ⟨(ad659.add ((t658).toNat * 8)).block, (ad659.add ((t658).toNat * 8)).off + 4, none⟩ = some (.int .i64 ((rd_T37 t634 t658).f3)) ∧ w'.cell? ⟨(ad659.add ((t658).toNat * 8)).block, (ad659.add ((t658).toNat * 8)).off + 5, none⟩ = some (.int .i64 ((rd_T37 t634 t658).f4)) ∧ w'.cell? ⟨(ad659.add ((t658).toNat * 8)).block, (ad659.add ((t658).toNat * 8)).off + 6, none⟩ = some (.int .i64 ((rd_T37 t634 t658).f5.f0)) ∧ w'.cell? ⟨(ad659.add ((t658).toNat * 8)).block, (ad659.add ((t658).toNat * 8)).off + 7, none⟩ = some (.int .i64 ((rd_T37 t634 t658).f5.f1))) (ds := []) #[z,z,z,z,z,z,z,z,z,z,z,z,z,z,z,z,z,z,z,z,z,z] (by kernel_rfl) rfl rfl ⟨(blk_cell BK657.out 0).trans rfl, (blk_cell BK657.out 1).trans rfl, (blk_cell BK657.out 2).trans rfl, (blk_cell BK657.out 3).trans rfl, (blk_cell BK657.out 4).trans rfl, (blk_cell BK657.out 5).trans rfl, (blk_cell BK657.out 6).trans rfl, (blk_cell BK657.out 7).trans rfl, hx659_0, hx659_1, hx659_2, hx659_3, hx659_4, hx659_5, hx659_6, hx659_7⟩ (fun hHeld => ?_); refine with_tabW laws_FnCompiled.tab7 laws_FnCompiled.bits7 (fun HT_ HW_ => ?_)
        generalize w26.drew = w38 at HO636 HO643 HO646 BK640 BK647 BK657 HB hx659_0 hx659_1 hx659_2 hx659_3 hx659_4 hx659_5 hx659_6 hx659_7 hHeld ⊢
        refine pure_ (i := 0) (N := some 29) (v := ?_) (a' := ?_) #[o,z,z,z,z,z,z,z,z,z,z,z,z,z,z,z,z,z,z,z,z,z] rfl rfl (any_of HT_.out (by kernel_rfl)) (fun _ _ _ h => h) (Or.inl ⟨by rfl, ?_⟩) ?_ ?_
        rotate_left
        ·intro w'
         go_simp
         with_reducible rfl
        rotate_left
        ·simp only [Act.put, qa, qb, qc, i64_w, i32_w]
         rfl
        refine pure_ (i := 1) (N := some 30) (v := ?_) (a' := ?_) #[o,o,z,z,z,z,z,z,z,z,z,z,z,z,z,z,z,z,z,z,z,z] rfl rfl (any_of HT_.out (by kernel_rfl)) (fun _ _ _ h => h) (Or.inl ⟨by rfl, ?_⟩) ?_ ?_
        rotate_left
        ·intro w'
         go_simp
         with_reducible rfl
        rotate_left
        ·simp only [Act.put, qa, qb, qc, i64_w, i32_w]
         rfl
        refine pure_ (i := 2) (N := some 31) (v := ?_) (a' := ?_) #[o,o,o,z,z,z,z,z,z,z,z,z,z,z,z,z,z,z,z,z,z,z] rfl rfl (any_of HT_.out (by kernel_rfl)) (fun _ _ _ h => h) (Or.inl ⟨by rfl, ?_⟩) ?_ ?_
        rotate_left
        ·intro w'
         go_simp
         with_reducible rfl
        rotate_left
        ·simp only [Act.put, qa, qb, qc, i64_w, i32_w]
         rfl
        refine pure_ (i := 3) (N := some 32) (v := ?_) (a' := ?_) #[o,o,o,o,z,z,z,z,z,z,z,z,z,z,z,z,z,z,z,z,z,z] rfl rfl (any_of HT_.out (by kernel_rfl)) (fun _ _ _ h => h) (Or.inl ⟨by rfl, ?_⟩) ?_ ?_
        rotate_left
        ·intro w'
         go_simp
         with_reducible rfl
        rotate_left
        ·simp only [Act.put, qa, qb, qc, i64_w, i32_w]
         rfl
        refine pure_ (i := 4) (N := some 33) (v := ?_) (a' := ?_) #[o,o,o,o,o,z,z,z,z,z,z,z,z,z,z,z,z,z,z,z,z,z] rfl rfl (any_of HT_.out (by kernel_rfl)) (fun _ _ _ h => h) (Or.inl ⟨by rfl, ?_⟩) ?_ ?_
        rotate_left
        ·intro w'
         go_simp
         with_reducible rfl
        rotate_left
        ·simp only [Act.put, qa, qb, qc, i64_w, i32_w]
         rfl
        refine pure_ (i := 5) (N := some 34) (v := ?_) (a' := ?_) #[o,o,o,o,o,o,z,z,z,z,z,z,z,z,z,z,z,z,z,z,z,z] rfl rfl (any_of HT_.out (by kernel_rfl)) (fun _ _ _ h => h) (Or.inl ⟨by rfl, ?_⟩) ?_ ?_
        rotate_left
        ·intro w'
         go_simp
         with_reducible rfl
        rotate_left
        ·simp only [Act.put, qa, qb, qc, i64_w, i32_w]
         rfl
        refine pure_ (i := 6) (N := some 35) (v := ?_) (a' := ?_) #[o,o,o,o,o,o,o,z,z,z,z,z,z,z,z,z,z,z,z,z,z,z] rfl rfl (any_of HT_.out (by kernel_rfl)) (fun _ _ _ h => h) (Or.inl ⟨by rfl, ?_⟩) ?_ ?_
        rotate_left
        ·intro w'
         go_simp
         with_reducible rfl
        rotate_left
        ·simp only [Act.put, qa, qb, qc, i64_w, i32_w]
         rfl
        refine pure_ (i := 8) (N := some 37) (v := ?_) (a' := ?_) #[o,o,o,o,o,o,o,z,o,z,z,z,z,z,z,z,z,z,z,z,z,z] rfl rfl (any_of HT_.out (by kernel_rfl)) (fun _ _ _ h => h) (Or.inl ⟨by rfl, ?_⟩) ?_ ?_
        rotate_left
        ·intro w'
         go_simp
         with_reducible rfl
        rotate_left
        ·simp only [Act.put, qa, qb, qc, i64_w, i32_w]
         rfl
        refine pure_ (i := 9) (N := some 38) (v := ?_) (a' := ?_) #[o,o,o,o,o,o,o,z,o,o,z,z,z,z,z,z,z,z,z,z,z,z] rfl rfl (any_of HT_.out (by kernel_rfl)) (fun _ _ _ h => h) (Or.inl ⟨by rfl, ?_⟩) ?_ ?_
        rotate_left
        ·intro w'
         go_simp
         with_reducible rfl
        rotate_left
        ·simp only [Act.put, qa, qb, qc, i64_w, i32_w]
         rfl
        refine pure_ (i := 10) (N := some 39) (v := ?_) (a' := ?_) #[o,o,o,o,o,o,o,z,o,o,o,z,z,z,z,z,z,z,z,z,z,z] rfl rfl (any_of HT_.out (by kernel_rfl)) (fun _ _ _ h => h) (Or.inl ⟨by rfl, ?_⟩) ?_ ?_
        rotate_left
        ·intro w'
         go_simp
         with_reducible rfl
        rotate_left
        ·simp only [Act.put, qa, qb, qc, i64_w, i32_w]
         rfl
        refine take_ (i := 7) (N := some 36) (v := ?_) (a' := ?_) #[o,o,o,o,o,o,o,o,o,o,o,z,z,z,z,z,z,z,z,z,z,z] rfl rfl (take_ofW HT_.out HW_.out (by kernel_rfl)) (fun _ _ _ h => h) (Or.inl ⟨by rfl, ?_⟩) hHeld ?_ ?_
        rotate_left
        ·rintro w' ⟨s0, s1, s2, s3, s4, s5, s6, s7, s8, s9, s10, s11, s12, s13, s14, s15⟩
         go_simp
         with_reducible rfl
        rotate_left
        ·simp only [Act.put, qa, qb, qc, i64_w, i32_w]
         rfl
        refine take_ (i := 11) (N := some 40) (v := ?_) (a' := ?_) #[o,o,o,o,o,o,o,o,o,o,o,o,z,z,z,z,z,z,z,z,z,z] rfl rfl (take_ofW HT_.out HW_.out (by kernel_rfl)) (fun _ _ _ h => h) (Or.inl ⟨by rfl, ?_⟩) hHeld ?_ ?_
        rotate_left
        ·rintro w' ⟨s0, s1, s2, s3, s4, s5, s6, s7, s8, s9, s10, s11, s12, s13, s14, s15⟩
         go_simp
         with_reducible rfl
        rotate_left
        ·simp only [Act.put, qa, qb, qc, i64_w, i32_w]
         rfl
        refine one_ (i := 12) (N := some 41) #[o,o,o,o,o,o,o,o,o,o,o,o,o,z,z,z,z,z,z,z,z,z] rfl rfl (one_of HT_.out (by kernel_rfl)) (by decide) (fun K hK => ?_)
        refine goes_ Try.func12 (by kernel_rfl) rfl #[.agg #[.int .i64 t648, .int .i64 t649, .int .i64 t650, .int .i64 t651, .int .i64 t652, .int .i64 t653, .int .i64 t654, .int .i64 t655], .agg #[.int .i64 ((rd_T37 t634 t658).f0), .int .i64 ((rd_T37 t634 t658).f1), .int .i64 ((rd_T37 t634 t658).f2.f0), .int .i64 ((rd_T37 t634 t658).f2.f1), .int .i64 ((rd_T37 t634 t658).f3), .int .i64 ((rd_T37 t634 t658).f4), .int .i64 ((rd_T37 t634 t658).f5.f0), .int .i64 ((rd_T37 t634 t658).f5.f1)]] (by rfl) rfl rfl (by (try simp only [List.map_toArray, List.map_cons, List.map_nil]); first | done | rfl | (simp only [List.length_drop, List.length_take]; rfl)) ?_
        with_reducible refine (laws_sameRule.calls t648 t649 t650 t651 t652 t653 t654 t655 ((rd_T37 t634 t658).f0) ((rd_T37 t634 t658).f1) ((rd_T37 t634 t658).f2.f0) ((rd_T37 t634 t658).f2.f1) ((rd_T37 t634 t658).f3) ((rd_T37 t634 t658).f4) ((rd_T37 t634 t658).f5.f0) ((rd_T37 t634 t658).f5.f1) false _ A32.out).mono ?_
        rintro e w39 ⟨rfl, hb⟩
        have HS8_ := (hb.cell (World.block_lt_of_cell? _ _ (hHeld.2.2.2.2.2.2.2.2.1))).trans (hHeld.2.2.2.2.2.2.2.2.1)
        have HS9_ := (hb.cell (World.block_lt_of_cell? _ _ (hHeld.2.2.2.2.2.2.2.2.2.1))).trans (hHeld.2.2.2.2.2.2.2.2.2.1)
        have HS10_ := (hb.cell (World.block_lt_of_cell? _ _ (hHeld.2.2.2.2.2.2.2.2.2.2.1))).trans (hHeld.2.2.2.2.2.2.2.2.2.2.1)
        have HS11_ := (hb.cell (World.block_lt_of_cell? _ _ (hHeld.2.2.2.2.2.2.2.2.2.2.2.1))).trans (hHeld.2.2.2.2.2.2.2.2.2.2.2.1)
        have HS12_ := (hb.cell (World.block_lt_of_cell? _ _ (hHeld.2.2.2.2.2.2.2.2.2.2.2.2.1))).trans (hHeld.2.2.2.2.2.2.2.2.2.2.2.2.1)
        have HS13_ := (hb.cell (World.block_lt_of_cell? _ _ (hHeld.2.2.2.2.2.2.2.2.2.2.2.2.2.1))).trans (hHeld.2.2.2.2.2.2.2.2.2.2.2.2.2.1)
        have HS14_ := (hb.cell (World.block_lt_of_cell? _ _ (hHeld.2.2.2.2.2.2.2.2.2.2.2.2.2.2.1))).trans (hHeld.2.2.2.2.2.2.2.2.2.2.2.2.2.2.1)
        have HS15_ := (hb.cell (World.block_lt_of_cell? _ _ (hHeld.2.2.2.2.2.2.2.2.2.2.2.2.2.2.2))).trans (hHeld.2.2.2.2.2.2.2.2.2.2.2.2.2.2.2)
        refine ⟨_, rfl, ?_⟩
        replace HO636 := am (Kd.R_below (rB HO636.out) hb)
        replace HO643 := am (Kd.R_below (rB HO643.out) hb)
        replace HO646 := am (Kd.S_below (by (with_reducible repeat (first | apply Kd.S_alloc | apply Kd.S_drewN | apply Kd.S_drew)); exact HO646.out) hb)
        replace BK640 := am (blk_below (bB BK640.out) hb)
        replace BK647 := am (blk_below (bB BK647.out) hb)
        replace BK657 := am (blk_below (bB BK657.out) hb)
        replace HB := am (below_step (sB HB.out) hb)
        (try clear hb)
        (try clear hb2)
        (try clear hk)
        (try clear hi)
        refine hK.out _ _ ⟨(blk_cell BK657.out 0).trans rfl, (blk_cell BK657.out 1).trans rfl, (blk_cell BK657.out 2).trans rfl, (blk_cell BK657.out 3).trans rfl, (blk_cell BK657.out 4).trans rfl, (blk_cell BK657.out 5).trans rfl, (blk_cell BK657.out 6).trans rfl, (blk_cell BK657.out 7).trans rfl, HS8_, HS9_, HS10_, HS11_, HS12_, HS13_, HS14_, HS15_⟩ (fun hHeld => ?_)
        clear hK K
        refine norm_ (a' := ?_) ?_ ?_
        rotate_left
        ·show Act.put _ (some 41) _ = _
         simp only [Act.put, qa, qb, qc, i64_w, i32_w]
         rfl
        refine pure_ (i := 13) (N := some 42) (v := ?_) (a' := ?_) #[o,o,o,o,o,o,o,o,o,o,o,o,o,o,z,z,z,z,z,z,z,z] rfl rfl (any_of HT_.out (by kernel_rfl)) (fun _ _ _ h => h) (Or.inl ⟨by rfl, ?_⟩) ?_ ?_
        rotate_left
        ·intro w'
         go_simp
         with_reducible rfl
        rotate_left
        ·simp only [Act.put, qa, qb, qc, i64_w, i32_w]
         rfl
        refine pure_ (i := 14) (N := some 43) (v := ?_) (a' := ?_) #[o,o,o,o,o,o,o,o,o,o,o,o,o,o,o,z,z,z,z,z,z,z] rfl rfl (any_of HT_.out (by kernel_rfl)) (fun _ _ _ h => h) (Or.inl ⟨by rfl, ?_⟩) ?_ ?_
        rotate_left
        ·intro w'
         go_simp
         with_reducible rfl
        rotate_left
        ·simp only [Act.put, qa, qb, qc, i64_w, i32_w]
         rfl
        refine pure_ (i := 15) (N := some 44) (v := undef) (a' := ?_) #[o,o,o,o,o,o,o,o,o,o,o,o,o,o,o,o,z,z,z,z,z,z] rfl rfl (any_of HT_.out (by kernel_rfl)) (fun _ _ _ h => h) (Or.inr ⟨by rfl, rfl⟩) ?_ ?_
        rotate_left
        ·simp only [Act.put, qa, qb, qc, i64_w, i32_w]
         rfl
        refine pure_ (i := 16) (N := some 45) (v := undef) (a' := ?_) #[o,o,o,o,o,o,o,o,o,o,o,o,o,o,o,o,o,z,z,z,z,z] rfl rfl (any_of HT_.out (by kernel_rfl)) (fun _ _ _ h => h) (Or.inr ⟨by rfl, rfl⟩) ?_ ?_
        rotate_left
        ·simp only [Act.put, qa, qb, qc, i64_w, i32_w]
         rfl
        refine pure_ (i := 17) (N := some 46) (v := undef) (a' := ?_) #[o,o,o,o,o,o,o,o,o,o,o,o,o,o,o,o,o,o,z,z,z,z] rfl rfl (any_of HT_.out (by kernel_rfl)) (fun _ _ _ h => h) (Or.inr ⟨by rfl, rfl⟩) ?_ ?_
        rotate_left
        ·simp only [Act.put, qa, qb, qc, i64_w, i32_w]
         rfl
        refine pure_ (i := 18) (N := some 47) (v := undef) (a' := ?_) #[o,o,o,o,o,o,o,o,o,o,o,o,o,o,o,o,o,o,o,z,z,z] rfl rfl (any_of HT_.out (by kernel_rfl)) (fun _ _ _ h => h) (Or.inr ⟨by rfl, rfl⟩) ?_ ?_
        rotate_left
        ·simp only [Act.put, qa, qb, qc, i64_w, i32_w]
         rfl
        refine pure_ (i := 19) (N := some 48) (v := ?_) (a' := ?_) #[o,o,o,o,o,o,o,o,o,o,o,o,o,o,o,o,o,o,o,o,z,z] rfl rfl (any_of HT_.out (by kernel_rfl)) (fun _ _ _ h => h) (Or.inl ⟨by rfl, ?_⟩) ?_ ?_
        rotate_left
        ·intro w'
         go_simp
         with_reducible rfl
        rotate_left
        ·simp only [Act.put, qa, qb, qc, i64_w, i32_w]
         rfl
        refine pure_ (i := 20) (N := some 49) (v := ?_) (a' := ?_) #[o,o,o,o,o,o,o,o,o,o,o,o,o,o,o,o,o,o,o,o,o,z] rfl rfl (any_of HT_.out (by kernel_rfl)) (fun _ _ _ h => h) (Or.inl ⟨by rfl, ?_⟩) ?_ ?_
        rotate_left
        ·intro w'
         go_simp
         with_reducible rfl
        rotate_left
        ·simp only [Act.put, qa, qb, qc, i64_w, i32_w]
         rfl
        refine pure_ (i := 21) (N := some 50) (v := ?_) (a' := ?_) #[o,o,o,o,o,o,o,o,o,o,o,o,o,o,o,o,o,o,o,o,o,o] rfl rfl (any_of HT_.out (by kernel_rfl)) (fun _ _ _ h => h) (Or.inl ⟨by rfl, ?_⟩) ?_ ?_
        rotate_left
        ·intro w'
         go_simp
         with_reducible rfl
        rotate_left
        ·simp only [Act.put, qa, qb, qc, i64_w, i32_w]
         rfl
        refine done_ (done_of HT_.out (by kernel_rfl)) ?_
        try go_wp2
        go_meet
        case rel => exact ⟨_, (true), (by first | rfl | (simp; done) | (simp [*]; done)), H', ⟨by first | omega | exact Nat.le_refl _⟩, ⟨by (with_reducible repeat (first | apply Kd.R_alloc | apply Kd.R_drewN | apply Kd.R_drew)); exact Kd.R_mono HO636.out (fun _ hk => ⟨hk.1.2, hk.2⟩)⟩, ⟨by (with_reducible repeat (first | apply Kd.R_alloc | apply Kd.R_drewN | apply Kd.R_drew)); exact Kd.R_mono HO643.out (fun _ hk => ⟨hk.1.2, hk.2⟩)⟩, ⟨by (with_reducible repeat (first | apply Kd.S_alloc | apply Kd.S_drewN | apply Kd.S_drew)); exact Kd.S_mono HO646.out (fun _ hk => ⟨hk.1.2, ⟨hk.1.1, hk.2⟩⟩)⟩, ⟨bB BK640.out⟩, ⟨bB BK647.out⟩, ⟨bB BK657.out⟩, ⟨sB HB.out⟩⟩
      ·rw [if_neg c31] at H
       exact absurd H (by simp)
     ·rw [if_neg c30] at H
      exact absurd H (by simp)
    ·replace c29 := Bool.eq_false_iff.mpr c29
     subst c29
     have H1 : (laws_FnCompiled.j0 k l0 t634 false t641 t644) = some r := by rw [if_neg (show ¬ (false = true) by decide)] at H; exact H
     clear H
     have H := H1
     clear H1
     have H' := Aside0.mk H
     clear H
     try go_wp2
     replace HO636 := am (Kd.R_drew HO636.out)
     replace HO643 := am (Kd.R_drew HO643.out)
     replace HO646 := am (Kd.S_drew HO646.out)
     replace BK640 := am (blk_drew BK640.out)
     replace BK647 := am (blk_drew BK647.out)
     replace BK657 := am (blk_drew BK657.out)
     replace HB := am (below_drew1 HB.out)
     refine start_ (n := 22) (S := fun w' => True) (ds := []) #[z,z,z,z,z,z,z,z,z,z,z,z,z,z,z,z,z,z,z,z,z,z] (by kernel_rfl) rfl rfl trivial (fun hHeld => ?_); refine with_tabW laws_FnCompiled.tab7 laws_FnCompiled.bits7 (fun HT_ HW_ => ?_)
     generalize w26.drew = w40 at HO636 HO643 HO646 BK640 BK647 BK657 HB hHeld ⊢
     refine pure_ (i := 0) (N := some 29) (v := ?_) (a' := ?_) #[o,z,z,z,z,z,z,z,z,z,z,z,z,z,z,z,z,z,z,z,z,z] rfl rfl (any_of HT_.out (by kernel_rfl)) (fun _ _ _ h => h) (Or.inl ⟨by rfl, ?_⟩) ?_ ?_
     rotate_left
     ·intro w'
      go_simp
      with_reducible rfl
     rotate_left
     ·simp only [Act.put, qa, qb, qc, i64_w, i32_w]
      rfl
     refine pure_ (i := 1) (N := some 30) (v := ?_) (a' := ?_) #[o,o,z,z,z,z,z,z,z,z,z,z,z,z,z,z,z,z,z,z,z,z] rfl rfl (any_of HT_.out (by kernel_rfl)) (fun _ _ _ h => h) (Or.inl ⟨by rfl, ?_⟩) ?_ ?_
     rotate_left
     ·intro w'
      go_simp
      with_reducible rfl
     rotate_left
     ·simp only [Act.put, qa, qb, qc, i64_w, i32_w]
      rfl
     refine pure_ (i := 2) (N := some 31) (v := ?_) (a' := ?_) #[o,o,o,z,z,z,z,z,z,z,z,z,z,z,z,z,z,z,z,z,z,z] rfl rfl (any_of HT_.out (by kernel_rfl)) (fun _ _ _ h => h) (Or.inl ⟨by rfl, ?_⟩) ?_ ?_
     rotate_left
     ·intro w'
      go_simp
      with_reducible rfl
     rotate_left
     ·simp only [Act.put, qa, qb, qc, i64_w, i32_w]
      rfl
     refine pure_ (i := 3) (N := some 32) (v := ?_) (a' := ?_) #[o,o,o,o,z,z,z,z,z,z,z,z,z,z,z,z,z,z,z,z,z,z] rfl rfl (any_of HT_.out (by kernel_rfl)) (fun _ _ _ h => h) (Or.inl ⟨by rfl, ?_⟩) ?_ ?_
     rotate_left
     ·intro w'
      go_simp
      with_reducible rfl
     rotate_left
     ·simp only [Act.put, qa, qb, qc, i64_w, i32_w]
      rfl
     refine pure_ (i := 4) (N := some 33) (v := ?_) (a' := ?_) #[o,o,o,o,o,z,z,z,z,z,z,z,z,z,z,z,z,z,z,z,z,z] rfl rfl (any_of HT_.out (by kernel_rfl)) (fun _ _ _ h => h) (Or.inl ⟨by rfl, ?_⟩) ?_ ?_
     rotate_left
     ·intro w'
      go_simp
      with_reducible rfl
     rotate_left
     ·simp only [Act.put, qa, qb, qc, i64_w, i32_w]
      rfl
     refine pure_ (i := 5) (N := some 34) (v := ?_) (a' := ?_) #[o,o,o,o,o,o,z,z,z,z,z,z,z,z,z,z,z,z,z,z,z,z] rfl rfl (any_of HT_.out (by kernel_rfl)) (fun _ _ _ h => h) (Or.inl ⟨by rfl, ?_⟩) ?_ ?_
     rotate_left
     ·intro w'
      go_simp
      with_reducible rfl
     rotate_left
     ·simp only [Act.put, qa, qb, qc, i64_w, i32_w]
      rfl
     refine pure_ (i := 6) (N := some 35) (v := ?_) (a' := ?_) #[o,o,o,o,o,o,o,z,z,z,z,z,z,z,z,z,z,z,z,z,z,z] rfl rfl (any_of HT_.out (by kernel_rfl)) (fun _ _ _ h => h) (Or.inl ⟨by rfl, ?_⟩) ?_ ?_
     rotate_left
     ·intro w'
      go_simp
      with_reducible rfl
     rotate_left
     ·simp only [Act.put, qa, qb, qc, i64_w, i32_w]
      rfl
     refine pure_ (i := 7) (N := some 36) (v := undef) (a' := ?_) #[o,o,o,o,o,o,o,o,z,z,z,z,z,z,z,z,z,z,z,z,z,z] rfl rfl (any_of HT_.out (by kernel_rfl)) (fun _ _ _ h => h) (Or.inr ⟨by rfl, rfl⟩) ?_ ?_
     rotate_left
     ·simp only [Act.put, qa, qb, qc, i64_w, i32_w]
      rfl
     refine pure_ (i := 8) (N := some 37) (v := undef) (a' := ?_) #[o,o,o,o,o,o,o,o,o,z,z,z,z,z,z,z,z,z,z,z,z,z] rfl rfl (any_of HT_.out (by kernel_rfl)) (fun _ _ _ h => h) (Or.inr ⟨by rfl, rfl⟩) ?_ ?_
     rotate_left
     ·simp only [Act.put, qa, qb, qc, i64_w, i32_w]
      rfl
     refine pure_ (i := 9) (N := some 38) (v := undef) (a' := ?_) #[o,o,o,o,o,o,o,o,o,o,z,z,z,z,z,z,z,z,z,z,z,z] rfl rfl (any_of HT_.out (by kernel_rfl)) (fun _ _ _ h => h) (Or.inr ⟨by rfl, rfl⟩) ?_ ?_
     rotate_left
     ·simp only [Act.put, qa, qb, qc, i64_w, i32_w]
      rfl
     refine pure_ (i := 10) (N := some 39) (v := undef) (a' := ?_) #[o,o,o,o,o,o,o,o,o,o,o,z,z,z,z,z,z,z,z,z,z,z] rfl rfl (any_of HT_.out (by kernel_rfl)) (fun _ _ _ h => h) (Or.inr ⟨by rfl, rfl⟩) ?_ ?_
     rotate_left
     ·simp only [Act.put, qa, qb, qc, i64_w, i32_w]
      rfl
     refine pure_ (i := 11) (N := some 40) (v := undef) (a' := ?_) #[o,o,o,o,o,o,o,o,o,o,o,o,z,z,z,z,z,z,z,z,z,z] rfl rfl (any_of HT_.out (by kernel_rfl)) (fun _ _ _ h => h) (Or.inr ⟨by rfl, rfl⟩) ?_ ?_
     rotate_left
     ·simp only [Act.put, qa, qb, qc, i64_w, i32_w]
      rfl
     refine pure_ (i := 12) (N := some 41) (v := undef) (a' := ?_) #[o,o,o,o,o,o,o,o,o,o,o,o,o,z,z,z,z,z,z,z,z,z] rfl rfl (any_of HT_.out (by kernel_rfl)) (fun _ _ _ h => h) (Or.inr ⟨by rfl, rfl⟩) ?_ ?_
     rotate_left
     ·simp only [Act.put, qa, qb, qc, i64_w, i32_w]
      rfl
     refine pure_ (i := 13) (N := some 42) (v := undef) (a' := ?_) #[o,o,o,o,o,o,o,o,o,o,o,o,o,o,z,z,z,z,z,z,z,z] rfl rfl (any_of HT_.out (by kernel_rfl)) (fun _ _ _ h => h) (Or.inr ⟨by rfl, rfl⟩) ?_ ?_
     rotate_left
     ·simp only [Act.put, qa, qb, qc, i64_w, i32_w]
      rfl
     refine pure_ (i := 14) (N := some 43) (v := undef) (a' := ?_) #[o,o,o,o,o,o,o,o,o,o,o,o,o,o,o,z,z,z,z,z,z,z] rfl rfl (any_of HT_.out (by kernel_rfl)) (fun _ _ _ h => h) (Or.inr ⟨by rfl, rfl⟩) ?_ ?_
     rotate_left
     ·simp only [Act.put, qa, qb, qc, i64_w, i32_w]
      rfl
     refine pure_ (i := 15) (N := some 44) (v := undef) (a' := ?_) #[o,o,o,o,o,o,o,o,o,o,o,o,o,o,o,o,z,z,z,z,z,z] rfl rfl (any_of HT_.out (by kernel_rfl)) (fun _ _ _ h => h) (Or.inr ⟨by rfl, rfl⟩) ?_ ?_
     rotate_left
     ·simp only [Act.put, qa, qb, qc, i64_w, i32_w]
      rfl
     refine pure_ (i := 16) (N := some 45) (v := undef) (a' := ?_) #[o,o,o,o,o,o,o,o,o,o,o,o,o,o,o,o,o,z,z,z,z,z] rfl rfl (any_of HT_.out (by kernel_rfl)) (fun _ _ _ h => h) (Or.inr ⟨by rfl, rfl⟩) ?_ ?_
     rotate_left
     ·simp only [Act.put, qa, qb, qc, i64_w, i32_w]
      rfl
     refine pure_ (i := 17) (N := some 46) (v := undef) (a' := ?_) #[o,o,o,o,o,o,o,o,o,o,o,o,o,o,o,o,o,o,z,z,z,z] rfl rfl (any_of HT_.out (by kernel_rfl)) (fun _ _ _ h => h) (Or.inr ⟨by rfl, rfl⟩) ?_ ?_
     rotate_left
     ·simp only [Act.put, qa, qb, qc, i64_w, i32_w]
      rfl
     refine pure_ (i := 18) (N := some 47) (v := undef) (a' := ?_) #[o,o,o,o,o,o,o,o,o,o,o,o,o,o,o,o,o,o,o,z,z,z] rfl rfl (any_of HT_.out (by kernel_rfl)) (fun _ _ _ h => h) (Or.inr ⟨by rfl, rfl⟩) ?_ ?_
     rotate_left
     ·simp only [Act.put, qa, qb, qc, i64_w, i32_w]
      rfl
     refine pure_ (i := 19) (N := some 48) (v := undef) (a' := ?_) #[o,o,o,o,o,o,o,o,o,o,o,o,o,o,o,o,o,o,o,o,z,z] rfl rfl (any_of HT_.out (by kernel_rfl)) (fun _ _ _ h => h) (Or.inr ⟨by rfl, rfl⟩) ?_ ?_
     rotate_left
     ·simp only [Act.put, qa, qb, qc, i64_w, i32_w]
      rfl
     refine pure_ (i := 20) (N := some 49) (v := ?_) (a' := ?_) #[o,o,o,o,o,o,o,o,o,o,o,o,o,o,o,o,o,o,o,o,o,z] rfl rfl (any_of HT_.out (by kernel_rfl)) (fun _ _ _ h => h) (Or.inl ⟨by rfl, ?_⟩) ?_ ?_
     rotate_left
     ·intro w'
      go_simp
      with_reducible rfl
     rotate_left
     ·simp only [Act.put, qa, qb, qc, i64_w, i32_w]
      rfl
     refine pure_ (i := 21) (N := some 50) (v := ?_) (a' := ?_) #[o,o,o,o,o,o,o,o,o,o,o,o,o,o,o,o,o,o,o,o,o,o] rfl rfl (any_of HT_.out (by kernel_rfl)) (fun _ _ _ h => h) (Or.inl ⟨by rfl, ?_⟩) ?_ ?_
     rotate_left
     ·intro w'
      go_simp
      with_reducible rfl
     rotate_left
     ·simp only [Act.put, qa, qb, qc, i64_w, i32_w]
      rfl
     refine done_ (done_of HT_.out (by kernel_rfl)) ?_
     try go_wp2
     go_meet
     case rel => exact ⟨_, (false), (by first | rfl | (simp; done) | (simp [*]; done)), H', ⟨by first | omega | exact Nat.le_refl _⟩, ⟨by (with_reducible repeat (first | apply Kd.R_alloc | apply Kd.R_drewN | apply Kd.R_drew)); exact Kd.R_mono HO636.out (fun _ hk => ⟨hk.1.2, hk.2⟩)⟩, ⟨by (with_reducible repeat (first | apply Kd.R_alloc | apply Kd.R_drewN | apply Kd.R_drew)); exact Kd.R_mono HO643.out (fun _ hk => ⟨hk.1.2, hk.2⟩)⟩, ⟨by (with_reducible repeat (first | apply Kd.S_alloc | apply Kd.S_drewN | apply Kd.S_drew)); exact Kd.S_mono HO646.out (fun _ hk => ⟨hk.1.2, ⟨hk.1.1, hk.2⟩⟩)⟩, ⟨bB BK640.out⟩, ⟨bB BK647.out⟩, ⟨bB BK657.out⟩, ⟨sB HB.out⟩⟩
  case rest =>
   clear HC8
   try clear c1
   try clear c2
   try clear p2
   try clear c3
   try clear p6
   try clear q6
   try clear hx6
   try clear c12
   try clear c13
   try clear c29
   try clear c30
   try clear c31
   try clear c33
   try clear hx659_0
   try clear hx659_1
   try clear hx659_2
   try clear hx659_3
   try clear hx659_4
   try clear hx659_5
   try clear hx659_6
   try clear hx659_7
   try clear p659
   try clear q659
   obtain ⟨kq, x50_7, rfl, HA, HJ7, HO_3, HO_648000, HO_648001, BK640, BK647, BK657, HB⟩ := hcut
   cases kq with
   | zero => exact absurd HA.out (by simp [laws_FnCompiled.j0])
   | succ kj7 =>
    have H := HA.out
    clear HA
    simp only [laws_FnCompiled.j0] at H
    by_cases c41 : x50_7 = true
    ·subst c41
     have H1 : (some false) = some r := by rw [if_pos rfl] at H; exact H
     clear H
     have H := H1
     clear H1
     exact absurd ((Option.some.inj H).trans HRT.out) (by decide)
    ·replace c41 := Bool.eq_false_iff.mpr c41
     subst c41
     have H1 : ((spec_DrawEqualRules.f kj7 l0).bind fun bt662 => ((impl_CountTable.f kj7 t641 t644).bind fun t668 => ((impl_SortRules.f kj7 t634).bind fun t669 => (if t668 = (t669.length : Int) then ((impl_LongestBucket.f kj7 t641 t644).bind fun t672 => ((impl_CountTable.f kj7 t641 t644).bind fun t673 => (if t672 ≤ t673 then ((impl_EqualRules.f kj7 bt662.1 bt662.2).bind fun t674 => ((impl_EqualRules.f kj7 bt662.2 bt662.1).bind fun t675 => (if (t674 == t675) = true then ((impl_EqualRules.f kj7 bt662.1 bt662.1).bind fun t676 => (some t676)) else (some false)))) else (some false)))) else (some false))))) = some r := by rw [if_neg (show ¬ (false = true) by decide)] at H; exact H
     clear H
     have H := H1
     clear H1
     replace H := Option.bind_eq_some_iff.mp H
     obtain ⟨⟨t662, t663⟩, A420, H⟩ := H
     replace H : ((impl_CountTable.f kj7 t641 t644).bind fun t668 => ((impl_SortRules.f kj7 t634).bind fun t669 => (if t668 = (t669.length : Int) then ((impl_LongestBucket.f kj7 t641 t644).bind fun t672 => ((impl_CountTable.f kj7 t641 t644).bind fun t673 => (if t672 ≤ t673 then ((impl_EqualRules.f kj7 t662 t663).bind fun t674 => ((impl_EqualRules.f kj7 t663 t662).bind fun t675 => (if (t674 == t675) = true then ((impl_EqualRules.f kj7 t662 t662).bind fun t676 => (some t676)) else (some false)))) else (some false)))) else (some false)))) = some r := H
     have A42 := Aside0.mk A420
     clear A420
     replace H := Option.bind_eq_some_iff.mp H
     obtain ⟨t668, A430, H⟩ := H
     replace H : ((impl_SortRules.f kj7 t634).bind fun t669 => (if t668 = (t669.length : Int) then ((impl_LongestBucket.f kj7 t641 t644).bind fun t672 => ((impl_CountTable.f kj7 t641 t644).bind fun t673 => (if t672 ≤ t673 then ((impl_EqualRules.f kj7 t662 t663).bind fun t674 => ((impl_EqualRules.f kj7 t663 t662).bind fun t675 => (if (t674 == t675) = true then ((impl_EqualRules.f kj7 t662 t662).bind fun t676 => (some t676)) else (some false)))) else (some false)))) else (some false))) = some r := H
     have A43 := Aside0.mk A430
     clear A430
     replace H := Option.bind_eq_some_iff.mp H
     obtain ⟨t669, A440, H⟩ := H
     replace H : (if t668 = (t669.length : Int) then ((impl_LongestBucket.f kj7 t641 t644).bind fun t672 => ((impl_CountTable.f kj7 t641 t644).bind fun t673 => (if t672 ≤ t673 then ((impl_EqualRules.f kj7 t662 t663).bind fun t674 => ((impl_EqualRules.f kj7 t663 t662).bind fun t675 => (if (t674 == t675) = true then ((impl_EqualRules.f kj7 t662 t662).bind fun t676 => (some t676)) else (some false)))) else (some false)))) else (some false)) = some r := H
     have A44 := Aside0.mk A440
     clear A440
     by_cases c45 : t668 = (t669.length : Int)
     ·rw [if_pos c45] at H
      have c45b0 : (t668 == (t669.length : Int)) = true := beq_iff_eq.mpr c45
      have c45b1 : (t668 != (t669.length : Int)) = false := bne_eq_false_iff_eq.mpr c45
      clear c45
      replace H := Option.bind_eq_some_iff.mp H
      obtain ⟨t672, A460, H⟩ := H
      replace H : ((impl_CountTable.f kj7 t641 t644).bind fun t673 => (if t672 ≤ t673 then ((impl_EqualRules.f kj7 t662 t663).bind fun t674 => ((impl_EqualRules.f kj7 t663 t662).bind fun t675 => (if (t674 == t675) = true then ((impl_EqualRules.f kj7 t662 t662).bind fun t676 => (some t676)) else (some false)))) else (some false))) = some r := H
      have A46 := Aside0.mk A460
      clear A460
      replace H := Option.bind_eq_some_iff.mp H
      obtain ⟨t673, A470, H⟩ := H
      replace H : (if t672 ≤ t673 then ((impl_EqualRules.f kj7 t662 t663).bind fun t674 => ((impl_EqualRules.f kj7 t663 t662).bind fun t675 => (if (t674 == t675) = true then ((impl_EqualRules.f kj7 t662 t662).bind fun t676 => (some t676)) else (some false)))) else (some false)) = some r := H
      have A47 := Aside0.mk A470
      clear A470
      by_cases c48 : t672 ≤ t673
      ·rw [if_pos c48] at H
       have c48b0 : decide (t672 ≤ t673) = true := decide_eq_true c48
       clear c48
       replace H := Option.bind_eq_some_iff.mp H
       obtain ⟨t674, A490, H⟩ := H
       replace H : ((impl_EqualRules.f kj7 t663 t662).bind fun t675 => (if (t674 == t675) = true then ((impl_EqualRules.f kj7 t662 t662).bind fun t676 => (some t676)) else (some false))) = some r := H
       have A49 := Aside0.mk A490
       clear A490
       replace H := Option.bind_eq_some_iff.mp H
       obtain ⟨t675, A500, H⟩ := H
       replace H : (if (t674 == t675) = true then ((impl_EqualRules.f kj7 t662 t662).bind fun t676 => (some t676)) else (some false)) = some r := H
       have A50 := Aside0.mk A500
       clear A500
       by_cases c51 : (t674 == t675) = true
       ·rw [if_pos c51] at H
        have c51b0 : (t674 == t675) = true := c51
        (try (have c51b1 : decide (t674 = t675) = true := by simpa using c51))
        (try (have c51b2 : (t674 == t675) = true := by simpa using c51))
        clear c51
        replace H := Option.bind_eq_some_iff.mp H
        obtain ⟨t676, A520, H⟩ := H
        replace H : (some t676) = some r := H
        have A52 := Aside0.mk A520
        clear A520
        obtain rfl := Option.some.inj H
        try go_wp2_with (first | ((with_reducible refine gate_callee (f := 14) rfl ?_); refine goesL_ (some 53) rfl rfl Try.func14 (by kernel_rfl) rfl #[.slice A0 l0.length c0] rfl (by (try simp only [List.map_toArray, List.map_cons, List.map_nil]); first | done | rfl | (simp only [List.length_drop, List.length_take]; rfl)) ?_; (with_reducible refine (spec_DrawEqualRules.calls kj7 _ _ l0 t662 t663 _ ?side1 ?side2 A42.out).mono ?_); (case side1 => exact cB ((Kd.C_below HR0.out HB.out))); (case side2 => exact HC0.out); rintro e w53 ⟨v664, v666, rfl, ho0, ho1, hb⟩; refine ⟨_, rfl, ?_⟩; have n0_ := am (Kd.R_mono (Kd.R_told (Kd.R_told (Kd.R_old (rB HO_3.out) hb) (Kd.R_base ho0)) (Kd.R_base ho1)) (fun _ h_ => h_.1)); have n1_ := am (Kd.R_mono (Kd.R_told (Kd.R_told (Kd.R_old (rB HO_648000.out) hb) (Kd.R_base ho0)) (Kd.R_base ho1)) (fun _ h_ => h_.1)); have n2_ := am (Kd.S_mono (Kd.S_told (Kd.S_told (Kd.S_old (by (with_reducible repeat (first | apply Kd.S_alloc | apply Kd.S_drewN | apply Kd.S_drew)); exact HO_648001.out) hb) (Kd.R_base ho0)) (Kd.R_base ho1)) (fun _ h_ => h_.1)); have n3_ := am (Kd.R_lower (Kd.R_newB (Kd.R_new' (Kd.R_new' ho0 (Kd.R_lt (rB HO_3.out))) (Kd.R_lt (rB HO_648000.out))) (g := gb657) (o := .cells #[.int .i64 t648, .int .i64 t649, .int .i64 t650, .int .i64 t651, .int .i64 t652, .int .i64 t653, .int .i64 t654, .int .i64 t655] 37 (0, 0)) (bB BK657.out)) (below_size (sB HB.out))); have n4_ := am (Kd.R_lower (Kd.R_newB (Kd.R_new' (Kd.R_new' ho1 (Kd.R_lt (rB HO_3.out))) (Kd.R_lt (rB HO_648000.out))) (g := gb657) (o := .cells #[.int .i64 t648, .int .i64 t649, .int .i64 t650, .int .i64 t651, .int .i64 t652, .int .i64 t653, .int .i64 t654, .int .i64 t655] 37 (0, 0)) (bB BK657.out)) (below_size (sB HB.out))); have n5_ := am (blk_below (bB BK640.out) hb); have n6_ := am (blk_below (bB BK647.out) hb); have n7_ := am (blk_below (bB BK657.out) hb); have n8_ := am (below_step (sB HB.out) hb); clear HO_3; clear HO_648000; clear HO_648001; clear BK640; clear BK647; clear BK657; clear HB; have HO_3 := n0_; have HO_648000 := n1_; have HO_648001 := n2_; have HO665 := n3_; have HO667 := n4_; have BK640 := n5_; have BK647 := n6_; have BK657 := n7_; have HB := n8_; clear n0_ n1_ n2_ n3_ n4_ n5_ n6_ n7_ n8_; (try clear hb); (try clear hb2); (try clear hk); (try clear hi); (try clear ho0); (try clear ho1)))
        have n0_ := am (Kd.R_drew HO_3.out)
        have n1_ := am (Kd.R_drew HO_648000.out)
        have n2_ := am (Kd.S_drew HO_648001.out)
        have n3_ := am (Kd.R_drew HO665.out)
        have n4_ := am (Kd.R_drew HO667.out)
        have n5_ := am (blk_drew BK640.out)
        have n6_ := am (blk_drew BK647.out)
        have n7_ := am (blk_drew BK657.out)
        have n8_ := am (below_drew1 HB.out)
        clear HO_3
        clear HO_648000
        clear HO_648001
        clear HO665
        clear HO667
        clear BK640
        clear BK647
        clear BK657
        clear HB
        have HO_3 := n0_
        have HO_648000 := n1_
        have HO_648001 := n2_
        have HO665 := n3_
        have HO667 := n4_
        have BK640 := n5_
        have BK647 := n6_
        have BK657 := n7_
        have HB := n8_
        clear n0_ n1_ n2_ n3_ n4_ n5_ n6_ n7_ n8_
        refine start_ (n := 28) (S := fun w' => w'.cell? ⟨gb647, 0, none⟩ = some (.slice Ao15 t641.length co15) ∧ w'.cell? ⟨gb647, 1, none⟩ = some (.slice Ao18 t644.length co18)) (ds := []) #[z,z,z,z,z,z,z,z,z,z,z,z,z,z,z,z,z,z,z,z,z,z,z,z,z,z,z,z] (by kernel_rfl) rfl rfl ⟨(blk_cell BK647.out 0).trans rfl, (blk_cell BK647.out 1).trans rfl⟩ (fun hHeld => ?_); refine with_tabW laws_FnCompiled.tab10 laws_FnCompiled.bits10 (fun HT_ HW_ => ?_)
        generalize w53.drew = w54 at HO_3 HO_648000 HO_648001 HO665 HO667 BK640 BK647 BK657 HB hHeld ⊢
        refine pure_ (i := 2) (N := some 58) (v := ?_) (a' := ?_) #[z,z,o,z,z,z,z,z,z,z,z,z,z,z,z,z,z,z,z,z,z,z,z,z,z,z,z,z] rfl rfl (any_of HT_.out (by kernel_rfl)) (fun _ _ _ h => h) (Or.inl ⟨by rfl, ?_⟩) ?_ ?_
        rotate_left
        ·intro w'
         go_simp
         with_reducible rfl
        rotate_left
        ·simp only [Act.put, qa, qb, qc, i64_w, i32_w]
         rfl
        refine take_ (i := 0) (N := some 56) (v := ?_) (a' := ?_) #[o,z,o,z,z,z,z,z,z,z,z,z,z,z,z,z,z,z,z,z,z,z,z,z,z,z,z,z] rfl rfl (take_ofW HT_.out HW_.out (by kernel_rfl)) (fun _ _ _ h => h) (Or.inl ⟨by rfl, ?_⟩) hHeld ?_ ?_
        rotate_left
        ·rintro w' ⟨s0, s1⟩
         go_simp
         with_reducible rfl
        rotate_left
        ·simp only [Act.put, qa, qb, qc, i64_w, i32_w]
         rfl
        refine one_ (i := 1) (N := some 57) #[o,o,o,z,z,z,z,z,z,z,z,z,z,z,z,z,z,z,z,z,z,z,z,z,z,z,z,z] rfl rfl (one_of HT_.out (by kernel_rfl)) (by decide) (fun K hK => ?_)
        refine goes_ Try.func15 (by kernel_rfl) rfl #[.agg #[.slice Ao15 t641.length co15, .slice Ao18 t644.length co18]] (by rfl) rfl rfl (by (try simp only [List.map_toArray, List.map_cons, List.map_nil]); first | done | rfl | (simp only [List.length_drop, List.length_take]; rfl)) ?_
        with_reducible refine (impl_CountTable.calls kj7 _ _ t641 _ _ t644 t668 _ ?side1 ?side2 ?side3 ?side4 A43.out).mono ?_
        (case side1 => exact cB ((Kd.R_reads' HO_648000.out).2.2))
        (case side2 => exact (Kd.R_reads' HO_648000.out).2.1)
        (case side3 => exact cB ((Kd.S_reads' HO_648001.out).2.2))
        (case side4 => exact (Kd.S_reads' HO_648001.out).2.1)
        rintro e w55 ⟨rfl, hb⟩
        refine ⟨_, rfl, ?_⟩
        replace HO_3 := am (Kd.R_below (rB HO_3.out) hb)
        replace HO_648000 := am (Kd.R_below (rB HO_648000.out) hb)
        replace HO_648001 := am (Kd.S_below (by (with_reducible repeat (first | apply Kd.S_alloc | apply Kd.S_drewN | apply Kd.S_drew)); exact HO_648001.out) hb)
        replace HO665 := am (Kd.R_below (rB HO665.out) hb)
        replace HO667 := am (Kd.R_below (rB HO667.out) hb)
        replace BK640 := am (blk_below (bB BK640.out) hb)
        replace BK647 := am (blk_below (bB BK647.out) hb)
        replace BK657 := am (blk_below (bB BK657.out) hb)
        replace HB := am (below_step (sB HB.out) hb)
        (try clear hb)
        (try clear hb2)
        (try clear hk)
        (try clear hi)
        refine hK.out _ _ ⟨(blk_cell BK647.out 0).trans rfl, (blk_cell BK647.out 1).trans rfl⟩ (fun hHeld => ?_)
        clear hK K
        refine norm_ (a' := ?_) ?_ ?_
        rotate_left
        ·show Act.put _ (some 57) _ = _
         simp only [Act.put, qa, qb, qc, i64_w, i32_w]
         rfl
        refine one_ (i := 3) (N := some 59) #[o,o,o,o,z,z,z,z,z,z,z,z,z,z,z,z,z,z,z,z,z,z,z,z,z,z,z,z] rfl rfl (one_of HT_.out (by kernel_rfl)) (by decide) (fun K hK => ?_)
        refine goes_ Try.func16 (by kernel_rfl) rfl #[.slice Ao12 t634.length co12] (by rfl) rfl rfl (by (try simp only [List.map_toArray, List.map_cons, List.map_nil]); first | done | rfl | (simp only [List.length_drop, List.length_take]; rfl)) ?_
        with_reducible refine (impl_SortRules.calls kj7 _ _ t634 t669 _ ?side1 ?side2 A44.out).mono ?_
        (case side1 => exact cB ((Kd.R_reads' HO_3.out).2.2))
        (case side2 => exact (Kd.R_reads' HO_3.out).2.1)
        rintro e w56 ⟨v670, rfl, ho0, hb⟩
        refine ⟨_, rfl, ?_⟩
        have n0_ := am (Kd.R_elder' (rB HO_3.out) (Kd.R_base ho0) hb)
        have n1_ := am (Kd.R_elder' (rB HO_648000.out) (Kd.R_base ho0) hb)
        have n2_ := am (Kd.S_elder' (by (with_reducible repeat (first | apply Kd.S_alloc | apply Kd.S_drewN | apply Kd.S_drew)); exact HO_648001.out) (Kd.R_base ho0) hb)
        have n3_ := am (Kd.R_elder' (rB HO665.out) (Kd.R_base ho0) hb)
        have n4_ := am (Kd.R_elder' (rB HO667.out) (Kd.R_base ho0) hb)
        have n5_ := am (Kd.R_lower (Kd.R_newB (Kd.R_new' (Kd.R_new' (Kd.R_new' (Kd.R_new' ho0 (Kd.R_lt (rB HO_3.out))) (Kd.R_lt (rB HO_648000.out))) (Kd.R_lt (rB HO665.out))) (Kd.R_lt (rB HO667.out))) (g := gb657) (o := .cells #[.int .i64 t648, .int .i64 t649, .int .i64 t650, .int .i64 t651, .int .i64 t652, .int .i64 t653, .int .i64 t654, .int .i64 t655] 37 (0, 0)) (bB BK657.out)) (below_size (sB HB.out)))
        have n6_ := am (blk_below (bB BK640.out) hb)
        have n7_ := am (blk_below (bB BK647.out) hb)
        have n8_ := am (blk_below (bB BK657.out) hb)
        have n9_ := am (below_step (sB HB.out) hb)
        clear HO_3
        clear HO_648000
        clear HO_648001
        clear HO665
        clear HO667
        clear BK640
        clear BK647
        clear BK657
        clear HB
        have HO_3 := n0_
        have HO_648000 := n1_
        have HO_648001 := n2_
        have HO665 := n3_
        have HO667 := n4_
        have HO671 := n5_
        have BK640 := n6_
        have BK647 := n7_
        have BK657 := n8_
        have HB := n9_
        clear n0_ n1_ n2_ n3_ n4_ n5_ n6_ n7_ n8_ n9_
        (try clear hb)
        (try clear hb2)
        (try clear hk)
        (try clear hi)
        (try clear ho0)
        obtain ⟨Ao57, co57, eo57⟩ := Kd.R_slice HO671.out
        (first | subst eo57 | (injection eo57 with f1_ f2_ f3_; have f4_ := f1_.symm; have f5_ := f3_.symm; clear f1_ f2_ f3_; subst f4_; subst f5_))
        refine hK.out _ _ ⟨(blk_cell BK647.out 0).trans rfl, (blk_cell BK647.out 1).trans rfl⟩ (fun hHeld => ?_)
        clear hK K
        refine norm_ (a' := ?_) ?_ ?_
        rotate_left
        ·show Act.put _ (some 59) _ = _
         simp only [Act.put, qa, qb, qc, i64_w, i32_w]
         rfl
        refine pure_ (i := 4) (N := some 60) (v := ?_) (a' := ?_) #[o,o,o,o,o,z,z,z,z,z,z,z,z,z,z,z,z,z,z,z,z,z,z,z,z,z,z,z] rfl rfl (any_of HT_.out (by kernel_rfl)) (fun _ _ _ h => h) (Or.inl ⟨by rfl, ?_⟩) ?_ ?_
        rotate_left
        ·intro w'
         go_simp
         with_reducible rfl
        rotate_left
        ·simp only [Act.put, qa, qb, qc, i64_w, i32_w]
         rfl
        refine pure_ (i := 5) (N := some 61) (v := ?_) (a' := ?_) #[o,o,o,o,o,o,z,z,z,z,z,z,z,z,z,z,z,z,z,z,z,z,z,z,z,z,z,z] rfl rfl (any_of HT_.out (by kernel_rfl)) (fun _ _ _ h => h) (Or.inl ⟨by rfl, ?_⟩) ?_ ?_
        rotate_left
        ·intro w'
         go_simp
         with_reducible rfl
        rotate_left
        ·simp only [Act.put, qa, qb, qc, i64_w, i32_w]
         rfl
        refine pure_ (i := 6) (N := some 62) (v := ?_) (a' := ?_) #[o,o,o,o,o,o,o,z,z,z,z,z,z,z,z,z,z,z,z,z,z,z,z,z,z,z,z,z] rfl rfl (any_of HT_.out (by kernel_rfl)) (fun _ _ _ h => h) (Or.inl ⟨by rfl, ?_⟩) ?_ ?_
        rotate_left
        ·intro w'
         go_simp
         with_reducible rfl
        rotate_left
        ·simp only [Act.put, qa, qb, qc, i64_w, i32_w]
         rfl
        refine take_ (i := 7) (N := some 63) (v := ?_) (a' := ?_) #[o,o,o,o,o,o,o,o,z,z,z,z,z,z,z,z,z,z,z,z,z,z,z,z,z,z,z,z] rfl rfl (take_ofW HT_.out HW_.out (by kernel_rfl)) (fun _ _ _ h => h) (Or.inl ⟨by rfl, ?_⟩) hHeld ?_ ?_
        rotate_left
        ·rintro w' ⟨s0, s1⟩
         go_simp
         with_reducible rfl
        rotate_left
        ·simp only [Act.put, qa, qb, qc, i64_w, i32_w]
         rfl
        refine take_ (i := 9) (N := some 65) (v := ?_) (a' := ?_) #[o,o,o,o,o,o,o,o,z,o,z,z,z,z,z,z,z,z,z,z,z,z,z,z,z,z,z,z] rfl rfl (take_ofW HT_.out HW_.out (by kernel_rfl)) (fun _ _ _ h => h) (Or.inl ⟨by rfl, ?_⟩) hHeld ?_ ?_
        rotate_left
        ·rintro w' ⟨s0, s1⟩
         go_simp
         with_reducible rfl
        rotate_left
        ·simp only [Act.put, qa, qb, qc, i64_w, i32_w]
         rfl
        refine one_ (i := 8) (N := some 64) #[o,o,o,o,o,o,o,o,o,o,z,z,z,z,z,z,z,z,z,z,z,z,z,z,z,z,z,z] rfl rfl (one_of HT_.out (by kernel_rfl)) (by decide) (fun K hK => ?_)
        refine goes_ Try.func17 (by kernel_rfl) rfl #[.agg #[.slice Ao15 t641.length co15, .slice Ao18 t644.length co18]] (by rfl) rfl rfl (by (try simp only [List.map_toArray, List.map_cons, List.map_nil]); first | done | rfl | (simp only [List.length_drop, List.length_take]; rfl)) ?_
        with_reducible refine (impl_LongestBucket.calls kj7 _ _ t641 _ _ t644 t672 _ ?side1 ?side2 ?side3 ?side4 A46.out).mono ?_
        (case side1 => exact cB ((Kd.R_reads' HO_648000.out).2.2))
        (case side2 => exact (Kd.R_reads' HO_648000.out).2.1)
        (case side3 => exact cB ((Kd.S_reads' HO_648001.out).2.2))
        (case side4 => exact (Kd.S_reads' HO_648001.out).2.1)
        rintro e w58 ⟨rfl, hb⟩
        refine ⟨_, rfl, ?_⟩
        replace HO_3 := am (Kd.R_below (rB HO_3.out) hb)
        replace HO_648000 := am (Kd.R_below (rB HO_648000.out) hb)
        replace HO_648001 := am (Kd.S_below (by (with_reducible repeat (first | apply Kd.S_alloc | apply Kd.S_drewN | apply Kd.S_drew)); exact HO_648001.out) hb)
        replace HO665 := am (Kd.R_below (rB HO665.out) hb)
        replace HO667 := am (Kd.R_below (rB HO667.out) hb)
        replace HO671 := am (Kd.R_below (rB HO671.out) hb)
        replace BK640 := am (blk_below (bB BK640.out) hb)
        replace BK647 := am (blk_below (bB BK647.out) hb)
        replace BK657 := am (blk_below (bB BK657.out) hb)
        replace HB := am (below_step (sB HB.out) hb)
        (try clear hb)
        (try clear hb2)
        (try clear hk)
        (try clear hi)
        refine hK.out _ _ ⟨(blk_cell BK647.out 0).trans rfl, (blk_cell BK647.out 1).trans rfl⟩ (fun hHeld => ?_)
        clear hK K
        refine norm_ (a' := ?_) ?_ ?_
        rotate_left
        ·show Act.put _ (some 64) _ = _
         simp only [Act.put, qa, qb, qc, i64_w, i32_w]
         rfl
        refine one_ (i := 10) (N := some 66) #[o,o,o,o,o,o,o,o,o,o,o,z,z,z,z,z,z,z,z,z,z,z,z,z,z,z,z,z] rfl rfl (one_of HT_.out (by kernel_rfl)) (by decide) (fun K hK => ?_)
        refine goes_ Try.func15 (by kernel_rfl) rfl #[.agg #[.slice Ao15 t641.length co15, .slice Ao18 t644.length co18]] (by rfl) rfl rfl (by (try simp only [List.map_toArray, List.map_cons, List.map_nil]); first | done | rfl | (simp only [List.length_drop, List.length_take]; rfl)) ?_
        with_reducible refine (impl_CountTable.calls kj7 _ _ t641 _ _ t644 t673 _ ?side1 ?side2 ?side3 ?side4 A47.out).mono ?_
        (case side1 => exact cB ((Kd.R_reads' HO_648000.out).2.2))
        (case side2 => exact (Kd.R_reads' HO_648000.out).2.1)
        (case side3 => exact cB ((Kd.S_reads' HO_648001.out).2.2))
        (case side4 => exact (Kd.S_reads' HO_648001.out).2.1)
        rintro e w59 ⟨rfl, hb⟩
        refine ⟨_, rfl, ?_⟩
        replace HO_3 := am (Kd.R_below (rB HO_3.out) hb)
        replace HO_648000 := am (Kd.R_below (rB HO_648000.out) hb)
        replace HO_648001 := am (Kd.S_below (by (with_reducible repeat (first | apply Kd.S_alloc | apply Kd.S_drewN | apply Kd.S_drew)); exact HO_648001.out) hb)
        replace HO665 := am (Kd.R_below (rB HO665.out) hb)
        replace HO667 := am (Kd.R_below (rB HO667.out) hb)
        replace HO671 := am (Kd.R_below (rB HO671.out) hb)
        replace BK640 := am (blk_below (bB BK640.out) hb)
        replace BK647 := am (blk_below (bB BK647.out) hb)
        replace BK657 := am (blk_below (bB BK657.out) hb)
        replace HB := am (below_step (sB HB.out) hb)
        (try clear hb)
        (try clear hb2)
        (try clear hk)
        (try clear hi)
        obtain ⟨Ao60, co60, eo60⟩ := Kd.R_slice HO665.out
        (first | subst eo60 | (injection eo60 with f1_ f2_ f3_; have f4_ := f1_.symm; have f5_ := f3_.symm; clear f1_ f2_ f3_; subst f4_; subst f5_))
        obtain ⟨Ao61, co61, eo61⟩ := Kd.R_slice HO667.out
        (first | subst eo61 | (injection eo61 with f1_ f2_ f3_; have f4_ := f1_.symm; have f5_ := f3_.symm; clear f1_ f2_ f3_; subst f4_; subst f5_))
        refine hK.out _ _ ⟨(blk_cell BK647.out 0).trans rfl, (blk_cell BK647.out 1).trans rfl⟩ (fun hHeld => ?_)
        clear hK K
        refine norm_ (a' := ?_) ?_ ?_
        rotate_left
        ·show Act.put _ (some 66) _ = _
         simp only [Act.put, qa, qb, qc, i64_w, i32_w]
         rfl
        refine pure_ (i := 11) (N := some 67) (v := ?_) (a' := ?_) #[o,o,o,o,o,o,o,o,o,o,o,o,z,z,z,z,z,z,z,z,z,z,z,z,z,z,z,z] rfl rfl (any_of HT_.out (by kernel_rfl)) (fun _ _ _ h => h) (Or.inl ⟨by rfl, ?_⟩) ?_ ?_
        rotate_left
        ·intro w'
         go_simp
         with_reducible rfl
        rotate_left
        ·simp only [Act.put, qa, qb, qc, i64_w, i32_w]
         rfl
        refine pure_ (i := 12) (N := some 68) (v := ?_) (a' := ?_) #[o,o,o,o,o,o,o,o,o,o,o,o,o,z,z,z,z,z,z,z,z,z,z,z,z,z,z,z] rfl rfl (any_of HT_.out (by kernel_rfl)) (fun _ _ _ h => h) (Or.inl ⟨by rfl, ?_⟩) ?_ ?_
        rotate_left
        ·intro w'
         go_simp
         with_reducible rfl
        rotate_left
        ·simp only [Act.put, qa, qb, qc, i64_w, i32_w]
         rfl
        refine pure_ (i := 13) (N := some 69) (v := ?_) (a' := ?_) #[o,o,o,o,o,o,o,o,o,o,o,o,o,o,z,z,z,z,z,z,z,z,z,z,z,z,z,z] rfl rfl (any_of HT_.out (by kernel_rfl)) (fun _ _ _ h => h) (Or.inl ⟨by rfl, ?_⟩) ?_ ?_
        rotate_left
        ·intro w'
         go_simp
         with_reducible rfl
        rotate_left
        ·simp only [Act.put, qa, qb, qc, i64_w, i32_w]
         rfl
        refine pure_ (i := 14) (N := some 70) (v := ?_) (a' := ?_) #[o,o,o,o,o,o,o,o,o,o,o,o,o,o,o,z,z,z,z,z,z,z,z,z,z,z,z,z] rfl rfl (any_of HT_.out (by kernel_rfl)) (fun _ _ _ h => h) (Or.inl ⟨by rfl, ?_⟩) ?_ ?_
        rotate_left
        ·intro w'
         go_simp
         with_reducible rfl
        rotate_left
        ·simp only [Act.put, qa, qb, qc, i64_w, i32_w]
         rfl
        refine pure_ (i := 15) (N := some 71) (v := ?_) (a' := ?_) #[o,o,o,o,o,o,o,o,o,o,o,o,o,o,o,o,z,z,z,z,z,z,z,z,z,z,z,z] rfl rfl (any_of HT_.out (by kernel_rfl)) (fun _ _ _ h => h) (Or.inl ⟨by rfl, ?_⟩) ?_ ?_
        rotate_left
        ·intro w'
         go_simp
         with_reducible rfl
        rotate_left
        ·simp only [Act.put, qa, qb, qc, i64_w, i32_w]
         rfl
        refine pure_ (i := 17) (N := some 73) (v := ?_) (a' := ?_) #[o,o,o,o,o,o,o,o,o,o,o,o,o,o,o,o,z,o,z,z,z,z,z,z,z,z,z,z] rfl rfl (any_of HT_.out (by kernel_rfl)) (fun _ _ _ h => h) (Or.inl ⟨by rfl, ?_⟩) ?_ ?_
        rotate_left
        ·intro w'
         go_simp
         with_reducible rfl
        rotate_left
        ·simp only [Act.put, qa, qb, qc, i64_w, i32_w]
         rfl
        refine pure_ (i := 18) (N := some 74) (v := ?_) (a' := ?_) #[o,o,o,o,o,o,o,o,o,o,o,o,o,o,o,o,z,o,o,z,z,z,z,z,z,z,z,z] rfl rfl (any_of HT_.out (by kernel_rfl)) (fun _ _ _ h => h) (Or.inl ⟨by rfl, ?_⟩) ?_ ?_
        rotate_left
        ·intro w'
         go_simp
         with_reducible rfl
        rotate_left
        ·simp only [Act.put, qa, qb, qc, i64_w, i32_w]
         rfl
        refine one_ (i := 16) (N := some 72) #[o,o,o,o,o,o,o,o,o,o,o,o,o,o,o,o,o,o,o,z,z,z,z,z,z,z,z,z] rfl rfl (one_of HT_.out (by kernel_rfl)) (by decide) (fun K hK => ?_)
        refine goes_ Try.func18 (by kernel_rfl) rfl #[.slice Ao60 t662.length co60, .slice Ao61 t663.length co61] (by rfl) rfl rfl (by (try simp only [List.map_toArray, List.map_cons, List.map_nil]); first | done | rfl | (simp only [List.length_drop, List.length_take]; rfl)) ?_
        with_reducible refine (impl_EqualRules.calls kj7 _ _ t662 _ _ t663 t674 _ ?side1 ?side2 ?side3 ?side4 A49.out).mono ?_
        (case side1 => exact cB ((Kd.R_reads' HO665.out).2.2))
        (case side2 => exact (Kd.R_reads' HO665.out).2.1)
        (case side3 => exact cB ((Kd.R_reads' HO667.out).2.2))
        (case side4 => exact (Kd.R_reads' HO667.out).2.1)
        rintro e w' ⟨rfl, ⟨nd, rfl⟩⟩
        refine ⟨_, rfl, ?_⟩
        refine hK.out _ _ ⟨(blk_cell BK647.out 0).trans rfl, (blk_cell BK647.out 1).trans rfl⟩ (fun hHeld => ?_)
        clear hK K
        refine norm_ (a' := ?_) ?_ ?_
        rotate_left
        ·show Act.put _ (some 72) _ = _
         simp only [Act.put, qa, qb, qc, i64_w, i32_w]
         rfl
        refine one_ (i := 19) (N := some 75) #[o,o,o,o,o,o,o,o,o,o,o,o,o,o,o,o,o,o,o,o,z,z,z,z,z,z,z,z] rfl rfl (one_of HT_.out (by kernel_rfl)) (by decide) (fun K hK => ?_)
        refine goes_ Try.func18 (by kernel_rfl) rfl #[.slice Ao61 t663.length co61, .slice Ao60 t662.length co60] (by rfl) rfl rfl (by (try simp only [List.map_toArray, List.map_cons, List.map_nil]); first | done | rfl | (simp only [List.length_drop, List.length_take]; rfl)) ?_
        with_reducible refine (impl_EqualRules.calls kj7 _ _ t663 _ _ t662 t675 _ ?side1 ?side2 ?side3 ?side4 A50.out).mono ?_
        (case side1 => exact cB ((Kd.R_reads' HO667.out).2.2))
        (case side2 => exact (Kd.R_reads' HO667.out).2.1)
        (case side3 => exact cB ((Kd.R_reads' HO665.out).2.2))
        (case side4 => exact (Kd.R_reads' HO665.out).2.1)
        rintro e w' ⟨rfl, ⟨nd, rfl⟩⟩
        refine ⟨_, rfl, ?_⟩
        refine hK.out _ _ ⟨(blk_cell BK647.out 0).trans rfl, (blk_cell BK647.out 1).trans rfl⟩ (fun hHeld => ?_)
        clear hK K
        refine norm_ (a' := ?_) ?_ ?_
        rotate_left
        ·show Act.put _ (some 75) _ = _
         simp only [Act.put, qa, qb, qc, i64_w, i32_w]
         rfl
        refine pure_ (i := 20) (N := some 76) (v := ?_) (a' := ?_) #[o,o,o,o,o,o,o,o,o,o,o,o,o,o,o,o,o,o,o,o,o,z,z,z,z,z,z,z] rfl rfl (any_of HT_.out (by kernel_rfl)) (fun _ _ _ h => h) (Or.inl ⟨by rfl, ?_⟩) ?_ ?_
        rotate_left
        ·intro w'
         go_simp
         with_reducible rfl
        rotate_left
        ·simp only [Act.put, qa, qb, qc, i64_w, i32_w]
         rfl
        refine pure_ (i := 21) (N := some 77) (v := ?_) (a' := ?_) #[o,o,o,o,o,o,o,o,o,o,o,o,o,o,o,o,o,o,o,o,o,o,z,z,z,z,z,z] rfl rfl (any_of HT_.out (by kernel_rfl)) (fun _ _ _ h => h) (Or.inl ⟨by rfl, ?_⟩) ?_ ?_
        rotate_left
        ·intro w'
         go_simp
         with_reducible rfl
        rotate_left
        ·simp only [Act.put, qa, qb, qc, i64_w, i32_w]
         rfl
        refine pure_ (i := 22) (N := some 78) (v := ?_) (a' := ?_) #[o,o,o,o,o,o,o,o,o,o,o,o,o,o,o,o,o,o,o,o,o,o,o,z,z,z,z,z] rfl rfl (any_of HT_.out (by kernel_rfl)) (fun _ _ _ h => h) (Or.inl ⟨by rfl, ?_⟩) ?_ ?_
        rotate_left
        ·intro w'
         go_simp
         with_reducible rfl
        rotate_left
        ·simp only [Act.put, qa, qb, qc, i64_w, i32_w]
         rfl
        refine pure_ (i := 23) (N := some 79) (v := ?_) (a' := ?_) #[o,o,o,o,o,o,o,o,o,o,o,o,o,o,o,o,o,o,o,o,o,o,o,o,z,z,z,z] rfl rfl (any_of HT_.out (by kernel_rfl)) (fun _ _ _ h => h) (Or.inl ⟨by rfl, ?_⟩) ?_ ?_
        rotate_left
        ·intro w'
         go_simp
         with_reducible rfl
        rotate_left
        ·simp only [Act.put, qa, qb, qc, i64_w, i32_w]
         rfl
        refine pure_ (i := 24) (N := some 80) (v := ?_) (a' := ?_) #[o,o,o,o,o,o,o,o,o,o,o,o,o,o,o,o,o,o,o,o,o,o,o,o,o,z,z,z] rfl rfl (any_of HT_.out (by kernel_rfl)) (fun _ _ _ h => h) (Or.inl ⟨by rfl, ?_⟩) ?_ ?_
        rotate_left
        ·intro w'
         go_simp
         with_reducible rfl
        rotate_left
        ·simp only [Act.put, qa, qb, qc, i64_w, i32_w]
         rfl
        refine one_ (i := 25) (N := some 81) #[o,o,o,o,o,o,o,o,o,o,o,o,o,o,o,o,o,o,o,o,o,o,o,o,o,o,z,z] rfl rfl (one_of HT_.out (by kernel_rfl)) (by decide) (fun K hK => ?_)
        refine goes_ Try.func18 (by kernel_rfl) rfl #[.slice Ao60 t662.length co60, .slice Ao60 t662.length co60] (by rfl) rfl rfl (by (try simp only [List.map_toArray, List.map_cons, List.map_nil]); first | done | rfl | (simp only [List.length_drop, List.length_take]; rfl)) ?_
        with_reducible refine (impl_EqualRules.calls kj7 _ _ t662 _ _ t662 t676 _ ?side1 ?side2 ?side3 ?side4 A52.out).mono ?_
        (case side1 => exact cB ((Kd.R_reads' HO665.out).2.2))
        (case side2 => exact (Kd.R_reads' HO665.out).2.1)
        (case side3 => exact cB ((Kd.R_reads' HO665.out).2.2))
        (case side4 => exact (Kd.R_reads' HO665.out).2.1)
        rintro e w' ⟨rfl, ⟨nd, rfl⟩⟩
        refine ⟨_, rfl, ?_⟩
        refine hK.out _ _ ⟨(blk_cell BK647.out 0).trans rfl, (blk_cell BK647.out 1).trans rfl⟩ (fun hHeld => ?_)
        clear hK K
        refine norm_ (a' := ?_) ?_ ?_
        rotate_left
        ·show Act.put _ (some 81) _ = _
         simp only [Act.put, qa, qb, qc, i64_w, i32_w]
         rfl
        refine pure_ (i := 26) (N := some 82) (v := ?_) (a' := ?_) #[o,o,o,o,o,o,o,o,o,o,o,o,o,o,o,o,o,o,o,o,o,o,o,o,o,o,o,z] rfl rfl (any_of HT_.out (by kernel_rfl)) (fun _ _ _ h => h) (Or.inl ⟨by rfl, ?_⟩) ?_ ?_
        rotate_left
        ·intro w'
         go_simp
         with_reducible rfl
        rotate_left
        ·simp only [Act.put, qa, qb, qc, i64_w, i32_w]
         rfl
        refine pure_ (i := 27) (N := some 2) (v := ?_) (a' := ?_) #[o,o,o,o,o,o,o,o,o,o,o,o,o,o,o,o,o,o,o,o,o,o,o,o,o,o,o,o] rfl rfl (any_of HT_.out (by kernel_rfl)) (fun _ _ _ h => h) (Or.inl ⟨by rfl, ?_⟩) ?_ ?_
        rotate_left
        ·intro w'
         go_simp
         with_reducible rfl
        rotate_left
        ·simp only [Act.put, qa, qb, qc, i64_w, i32_w]
         rfl
        refine done_ (done_of HT_.out (by kernel_rfl)) ?_
        try go_wp2
        go_ret
        exact ⟨by first | rfl | (simp [errW_none, errW_some] <;> rfl) | (simp [*, errW_none, errW_some] <;> rfl), sB HB.out⟩
       ·rw [if_neg c51] at H
        have c51b0 : (t674 == t675) = false := by simpa using c51
        (try (have c51b1 : decide (t674 = t675) = false := by simpa using c51))
        (try (have c51b2 : (t674 == t675) = false := by simpa using c51))
        (try (have c51b3 : ¬ (t674 = t675) := by simpa using c51))
        clear c51
        exact absurd ((Option.some.inj H).trans HRT.out) (by decide)
      ·rw [if_neg c48] at H
       have c48b0 : decide (t672 ≤ t673) = false := decide_eq_false c48
       clear c48
       exact absurd ((Option.some.inj H).trans HRT.out) (by decide)
     ·rw [if_neg c45] at H
      have c45b0 : (t668 == (t669.length : Int)) = false := beq_eq_false_iff_ne.mpr c45
      have c45b1 : (t668 != (t669.length : Int)) = true := bne_iff_ne.mpr c45
      exact absurd ((Option.some.inj H).trans HRT.out) (by decide)

/-- THE ONE PURE STATEMENT of laws_FnCompiled: yours. -/
def laws_FnCompiled.Pure : Prop := ∀ (l0 : List Int), l0.length ≤ maxLen → l0.length * 1 ≤ 140737488351232 → (∀ x ∈ l0, (Lit.int .u8 x).wf = true) → ∃ k, laws_FnCompiled.f k l0 = some true
theorem laws_FnCompiled.walk (P : laws_FnCompiled.Pure) (a0 : Option Addr) (len0 cap0 : Nat) (z0 : List Int) (w : World) (w0 : (a0 = none ∧ len0 = 0 ∧ cap0 = 0 ∧ z0 = []) ∨ ∃ x, a0 = some x ∧ len0 ≤ cap0 ∧ cap0 ≤ maxLen ∧ z0.length = cap0 ∧ (∀ i, i < z0.length → w.cell? (x.add i) = some (.int .u8 (z0.getD i 0))) ∧ ∀ n ∈ z0, (Lit.int .u8 n).wf = true) (y0 : len0 * 1 ≤ 140737488351232) :
  Calls Try.prog 3 #[.slice a0 len0 cap0] w fun e w' => e = .returned (.bool true) ∧ Below w.heap.size w w' := by
 obtain ⟨l0, rfl, hr0, hm0, hw0, hc0⟩ := ReadsInt.ofRowC w0
 obtain ⟨k, h⟩ := P l0 hm0 y0 hw0
 refine (laws_FnCompiled.calls k _ _ l0 true w (Kd.C_of_reads (d := (0 : Int)) (h1 := fun _ => rfl) hr0) hc0 h rfl).mono ?_
 rintro e w' ⟨rfl, hd⟩
 exact ⟨rfl, hd⟩

end Go.Proofs.Ytepndcpncndjdaa.QS
