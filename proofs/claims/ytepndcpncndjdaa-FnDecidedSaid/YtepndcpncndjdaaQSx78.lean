/- Go functions as Lean functions, each with its walk; printed by a program of this session (a scratch copy of print.py that follows nested field addresses and tells a law for the answer true). -/
import Derived.Test.YtepndcpncndjdaaQSx0
import Derived.Test.YtepndcpncndjdaaQSx17
import Derived.Test.YtepndcpncndjdaaQSx59
import Derived.Test.YtepndcpncndjdaaQSx60
import Derived.Test.YtepndcpncndjdaaQSx66
import Derived.Test.YtepndcpncndjdaaQSx74
import Derived.Test.YtepndcpncndjdaaQSx76
import Derived.Test.YtepndcpncndjdaaQSx77
import Derived.Test.YtepndcpncndjdaaQSxM3
import Derived.Test.YtepndcpncndjdaaQSxM5
namespace Go.Proofs.Ytepndcpncndjdaa.QS
open Go.RowKit Go.Proofs.YtepndcpncndjdaaW.PrintWords Go.Proofs.YtepndcpncndjdaaW.PrintLast Go.Proofs.YtepndcpncndjdaaW.PrintMore Go.Proofs.Ytepndcpncndjdaa.Short
attribute [local go_sem] max2_int min2_int max_two min_two max_three min_three max_four min_four   -- for this text's walks alone
set_option linter.unusedVariables false
set_option linter.unusedSimpArgs false

/-! ### laws_FnDecided: function 5 -/
mutual
def laws_FnDecided.j0 : Nat → List (S37) → Int → List Int → Bool → Int → Int → Int → Option (Bool)
 | 0, _, _, _, _, _, _, _ => none
 | k + 1, x3, x5, x6, x55, x702000, x702001, x702002 => if x55 = true then (some false) else (laws_FnDecided.l0 k x3 x5 x6 0 x702000 x702001 x702002)
def laws_FnDecided.l0 : Nat → List (S37) → Int → List Int → Int → Int → Int → Int → Option (Bool)
 | 0, _, _, _, _, _, _, _ => none
 | k + 1, x3, x5, x6, x7, x702000, x702001, x702002 => if x7 < (x6.length : Int) then (if 0 ≤ x7 then (if 0 ≤ (rd x6 x7) then (if (rd x6 x7) < (x3.length : Int) then (if 0 ≤ x5 then (if x5 < (x3.length : Int) then ((impl_IsBefore.f k ((rd_T37 x3 (rd x6 x7)).f0) ((rd_T37 x3 (rd x6 x7)).f1) ((rd_T37 x3 (rd x6 x7)).f2.f0) ((rd_T37 x3 (rd x6 x7)).f2.f1) ((rd_T37 x3 (rd x6 x7)).f3) ((rd_T37 x3 (rd x6 x7)).f4) ((rd_T37 x3 (rd x6 x7)).f5.f0) ((rd_T37 x3 (rd x6 x7)).f5.f1) ((rd_T37 x3 x5).f0) ((rd_T37 x3 x5).f1) ((rd_T37 x3 x5).f2.f0) ((rd_T37 x3 x5).f2.f1) ((rd_T37 x3 x5).f3) ((rd_T37 x3 x5).f4) ((rd_T37 x3 x5).f5.f0) ((rd_T37 x3 x5).f5.f1)).bind fun t714 => (if t714 = true then (some false) else (laws_FnDecided.l0 k x3 x5 x6 (wrap64 (x7 + 1)) x702000 x702001 x702002))) else (none)) else (none)) else (none)) else (none)) else (none)) else (if x5 ≥ 0 then ((impl_ActionFor.f k x3 x702000 x702001 x702002).bind fun t715 => (if 0 ≤ x5 then (if x5 < (x3.length : Int) then (if t715 = ((rd_T37 x3 x5).f4) then ((impl_WhoDecides.f k x3 x702000 x702001 x702002).bind fun t717 => (laws_FnDecided.j2 k x3 x5 (t717 != ((rd_T37 x3 x5).f0)) x702000 x702001 x702002)) else (laws_FnDecided.j2 k x3 x5 true x702000 x702001 x702002)) else (none)) else (none))) else (laws_FnDecided.j2 k x3 x5 false x702000 x702001 x702002))
def laws_FnDecided.j2 : Nat → List (S37) → Int → Bool → Int → Int → Int → Option (Bool)
 | 0, _, _, _, _, _, _ => none
 | k + 1, x3, x5, x97, x702000, x702001, x702002 => if x97 = true then (some false) else ((impl_SortRules.f k x3).bind fun t719 => (laws_FnDecided.l1 k x3 x5 t719 1 x702000 x702001 x702002))
def laws_FnDecided.l1 : Nat → List (S37) → Int → List (S37) → Int → Int → Int → Int → Option (Bool)
 | 0, _, _, _, _, _, _, _ => none
 | k + 1, x3, x5, x8, x9, x702000, x702001, x702002 => if x9 < (x8.length : Int) then (if 0 ≤ x9 then (if 0 ≤ (wrap64 (x9 - 1)) then (if (wrap64 (x9 - 1)) < (x8.length : Int) then ((impl_IsBefore.f k ((rd_T37 x8 x9).f0) ((rd_T37 x8 x9).f1) ((rd_T37 x8 x9).f2.f0) ((rd_T37 x8 x9).f2.f1) ((rd_T37 x8 x9).f3) ((rd_T37 x8 x9).f4) ((rd_T37 x8 x9).f5.f0) ((rd_T37 x8 x9).f5.f1) ((rd_T37 x8 (wrap64 (x9 - 1))).f0) ((rd_T37 x8 (wrap64 (x9 - 1))).f1) ((rd_T37 x8 (wrap64 (x9 - 1))).f2.f0) ((rd_T37 x8 (wrap64 (x9 - 1))).f2.f1) ((rd_T37 x8 (wrap64 (x9 - 1))).f3) ((rd_T37 x8 (wrap64 (x9 - 1))).f4) ((rd_T37 x8 (wrap64 (x9 - 1))).f5.f0) ((rd_T37 x8 (wrap64 (x9 - 1))).f5.f1)).bind fun t724 => (if t724 = true then (some false) else (laws_FnDecided.l1 k x3 x5 x8 (wrap64 (x9 + 1)) x702000 x702001 x702002))) else (none)) else (none)) else (none)) else ((impl_DecideRule.f k x8 x702000 x702001 x702002).bind fun t725 => (if ((decide (t725 < 0)) == (decide (x5 < 0))) = true then (if x5 < 0 then (some true) else (if 0 ≤ t725 then (if t725 < (x8.length : Int) then (if 0 ≤ x5 then (if x5 < (x3.length : Int) then ((laws_sameRule.f ((rd_T37 x8 t725).f0) ((rd_T37 x8 t725).f1) ((rd_T37 x8 t725).f2.f0) ((rd_T37 x8 t725).f2.f1) ((rd_T37 x8 t725).f3) ((rd_T37 x8 t725).f4) ((rd_T37 x8 t725).f5.f0) ((rd_T37 x8 t725).f5.f1) ((rd_T37 x3 x5).f0) ((rd_T37 x3 x5).f1) ((rd_T37 x3 x5).f2.f0) ((rd_T37 x3 x5).f2.f1) ((rd_T37 x3 x5).f3) ((rd_T37 x3 x5).f4) ((rd_T37 x3 x5).f5.f0) ((rd_T37 x3 x5).f5.f1)).bind fun t728 => (some t728)) else (none)) else (none)) else (none)) else (none))) else (some false)))
end
def laws_FnDecided.f (k : Nat) (l0 : List Int) : Option (Bool) := (laws_big.f l0).bind fun t694 => (if t694 = true then (some true) else ((spec_DrawDecideRule.f k l0).bind fun bt695 => ((impl_DecideRule.f k bt695.1 bt695.2.1 bt695.2.2.1 bt695.2.2.2).bind fun t702 => ((impl_AppliesTo.f k bt695.1 bt695.2.1 bt695.2.2.1 bt695.2.2.2).bind fun t703 => (if ((decide (t702 < 0)) != ((t703.length : Int) == 0)) = true then (laws_FnDecided.j0 k bt695.1 t702 t703 true bt695.2.1 bt695.2.2.1 bt695.2.2.2) else (if t702 ≥ 0 then ((laws_contains.f k t703 t702).bind fun t706 => (if t706 = true then (if t702 < 0 then ((impl_ActionFor.f k bt695.1 bt695.2.1 bt695.2.2.1 bt695.2.2.2).bind fun t707 => (if t707 = 1 then ((impl_WhoDecides.f k bt695.1 bt695.2.1 bt695.2.2.1 bt695.2.2.2).bind fun t708 => (laws_FnDecided.j0 k bt695.1 t702 t703 (t708 != 0) bt695.2.1 bt695.2.2.1 bt695.2.2.2)) else (laws_FnDecided.j0 k bt695.1 t702 t703 true bt695.2.1 bt695.2.2.1 bt695.2.2.2))) else (laws_FnDecided.j0 k bt695.1 t702 t703 false bt695.2.1 bt695.2.2.1 bt695.2.2.2)) else (laws_FnDecided.j0 k bt695.1 t702 t703 true bt695.2.1 bt695.2.2.1 bt695.2.2.2))) else (if t702 < 0 then ((impl_ActionFor.f k bt695.1 bt695.2.1 bt695.2.2.1 bt695.2.2.2).bind fun t709 => (if t709 = 1 then ((impl_WhoDecides.f k bt695.1 bt695.2.1 bt695.2.2.1 bt695.2.2.2).bind fun t710 => (laws_FnDecided.j0 k bt695.1 t702 t703 (t710 != 0) bt695.2.1 bt695.2.2.1 bt695.2.2.2)) else (laws_FnDecided.j0 k bt695.1 t702 t703 true bt695.2.1 bt695.2.2.1 bt695.2.2.2))) else (laws_FnDecided.j0 k bt695.1 t702 t703 false bt695.2.1 bt695.2.2.1 bt695.2.2.2))))))))
theorem laws_FnDecided.mono_l : ∀ k, (∀ y0 y1 y2 y3 y4 y5 y6, LeO (laws_FnDecided.j0 k y0 y1 y2 y3 y4 y5 y6) (laws_FnDecided.j0 (k + 1) y0 y1 y2 y3 y4 y5 y6)) ∧ (∀ y0 y1 y2 y3 y4 y5 y6, LeO (laws_FnDecided.l0 k y0 y1 y2 y3 y4 y5 y6) (laws_FnDecided.l0 (k + 1) y0 y1 y2 y3 y4 y5 y6)) ∧ (∀ y0 y1 y2 y3 y4 y5, LeO (laws_FnDecided.j2 k y0 y1 y2 y3 y4 y5) (laws_FnDecided.j2 (k + 1) y0 y1 y2 y3 y4 y5)) ∧ (∀ y0 y1 y2 y3 y4 y5 y6, LeO (laws_FnDecided.l1 k y0 y1 y2 y3 y4 y5 y6) (laws_FnDecided.l1 (k + 1) y0 y1 y2 y3 y4 y5 y6))
 | 0 => ⟨fun _ _ _ _ _ _ _ r h => by simp [laws_FnDecided.j0] at h, fun _ _ _ _ _ _ _ r h => by simp [laws_FnDecided.l0] at h, fun _ _ _ _ _ _ r h => by simp [laws_FnDecided.j2] at h, fun _ _ _ _ _ _ _ r h => by simp [laws_FnDecided.l1] at h⟩
 | k + 1 => by
  obtain ⟨ih0, ih1, ih2, ih3⟩ := laws_FnDecided.mono_l k
  refine ⟨?_, ?_, ?_, ?_⟩
  ·intro y0 y1 y2 y3 y4 y5 y6
   unfold laws_FnDecided.j0
   repeat' first
   | (with_reducible exact ih0 _ _ _ _ _ _ _)
   | (with_reducible exact ih1 _ _ _ _ _ _ _)
   | (with_reducible exact ih2 _ _ _ _ _ _)
   | (with_reducible exact ih3 _ _ _ _ _ _ _)
   | (with_reducible exact impl_ActionFor.mono _ _ _ _ _)
   | (with_reducible exact impl_AppliesTo.mono _ _ _ _ _)
   | (with_reducible exact impl_DecideRule.mono _ _ _ _ _)
   | (with_reducible exact impl_IsBefore.mono _ _ _ _ _ _ _ _ _ _ _ _ _ _ _ _ _)
   | (with_reducible exact impl_SortRules.mono _ _)
   | (with_reducible exact impl_WhoDecides.mono _ _ _ _ _)
   | (with_reducible exact laws_contains.mono _ _ _)
   | (with_reducible exact spec_DrawDecideRule.mono _ _)
   | (with_reducible exact LeO.refl _)
   | (with_reducible exact LeO.none _)
   | (with_reducible refine LeO.ite ?_ ?_)
   | (with_reducible refine LeO.bind ?_ (fun _ => ?_))
   | exact ih0 _ _ _ _ _ _ _
   | exact ih1 _ _ _ _ _ _ _
   | exact ih2 _ _ _ _ _ _
   | exact ih3 _ _ _ _ _ _ _
   | exact impl_ActionFor.mono _ _ _ _ _
   | exact impl_AppliesTo.mono _ _ _ _ _
   | exact impl_DecideRule.mono _ _ _ _ _
   | exact impl_IsBefore.mono _ _ _ _ _ _ _ _ _ _ _ _ _ _ _ _ _
   | exact impl_SortRules.mono _ _
   | exact impl_WhoDecides.mono _ _ _ _ _
   | exact laws_contains.mono _ _ _
   | exact spec_DrawDecideRule.mono _ _
   | exact LeO.none _
   | refine LeO.ite ?_ ?_
   | refine LeO.bind ?_ (fun _ => ?_)
  ·intro y0 y1 y2 y3 y4 y5 y6
   unfold laws_FnDecided.l0
   repeat' first
   | (with_reducible exact ih0 _ _ _ _ _ _ _)
   | (with_reducible exact ih1 _ _ _ _ _ _ _)
   | (with_reducible exact ih2 _ _ _ _ _ _)
   | (with_reducible exact ih3 _ _ _ _ _ _ _)
   | (with_reducible exact impl_ActionFor.mono _ _ _ _ _)
   | (with_reducible exact impl_AppliesTo.mono _ _ _ _ _)
   | (with_reducible exact impl_DecideRule.mono _ _ _ _ _)
   | (with_reducible exact impl_IsBefore.mono _ _ _ _ _ _ _ _ _ _ _ _ _ _ _ _ _)
   | (with_reducible exact impl_SortRules.mono _ _)
   | (with_reducible exact impl_WhoDecides.mono _ _ _ _ _)
   | (with_reducible exact laws_contains.mono _ _ _)
   | (with_reducible exact spec_DrawDecideRule.mono _ _)
   | (with_reducible exact LeO.refl _)
   | (with_reducible exact LeO.none _)
   | (with_reducible refine LeO.ite ?_ ?_)
   | (with_reducible refine LeO.bind ?_ (fun _ => ?_))
   | exact ih0 _ _ _ _ _ _ _
   | exact ih1 _ _ _ _ _ _ _
   | exact ih2 _ _ _ _ _ _
   | exact ih3 _ _ _ _ _ _ _
   | exact impl_ActionFor.mono _ _ _ _ _
   | exact impl_AppliesTo.mono _ _ _ _ _
   | exact impl_DecideRule.mono _ _ _ _ _
   | exact impl_IsBefore.mono _ _ _ _ _ _ _ _ _ _ _ _ _ _ _ _ _
   | exact impl_SortRules.mono _ _
   | exact impl_WhoDecides.mono _ _ _ _ _
   | exact laws_contains.mono _ _ _
   | exact spec_DrawDecideRule.mono _ _
   | exact LeO.none _
   | refine LeO.ite ?_ ?_
   | refine LeO.bind ?_ (fun _ => ?_)
  ·intro y0 y1 y2 y3 y4 y5
   unfold laws_FnDecided.j2
   repeat' first
   | (with_reducible exact ih0 _ _ _ _ _ _ _)
   | (with_reducible exact ih1 _ _ _ _ _ _ _)
   | (with_reducible exact ih2 _ _ _ _ _ _)
   | (with_reducible exact ih3 _ _ _ _ _ _ _)
   | (with_reducible exact impl_ActionFor.mono _ _ _ _ _)
   | (with_reducible exact impl_AppliesTo.mono _ _ _ _ _)
   | (with_reducible exact impl_DecideRule.mono _ _ _ _ _)
   | (with_reducible exact impl_IsBefore.mono _ _ _ _ _ _ _ _ _ _ _ _ _ _ _ _ _)
   | (with_reducible exact impl_SortRules.mono _ _)
   | (with_reducible exact impl_WhoDecides.mono _ _ _ _ _)
   | (with_reducible exact laws_contains.mono _ _ _)
   | (with_reducible exact spec_DrawDecideRule.mono _ _)
   | (with_reducible exact LeO.refl _)
   | (with_reducible exact LeO.none _)
   | (with_reducible refine LeO.ite ?_ ?_)
   | (with_reducible refine LeO.bind ?_ (fun _ => ?_))
   | exact ih0 _ _ _ _ _ _ _
   | exact ih1 _ _ _ _ _ _ _
   | exact ih2 _ _ _ _ _ _
   | exact ih3 _ _ _ _ _ _ _
   | exact impl_ActionFor.mono _ _ _ _ _
   | exact impl_AppliesTo.mono _ _ _ _ _
   | exact impl_DecideRule.mono _ _ _ _ _
   | exact impl_IsBefore.mono _ _ _ _ _ _ _ _ _ _ _ _ _ _ _ _ _
   | exact impl_SortRules.mono _ _
   | exact impl_WhoDecides.mono _ _ _ _ _
   | exact laws_contains.mono _ _ _
   | exact spec_DrawDecideRule.mono _ _
   | exact LeO.none _
   | refine LeO.ite ?_ ?_
   | refine LeO.bind ?_ (fun _ => ?_)
  ·intro y0 y1 y2 y3 y4 y5 y6
   unfold laws_FnDecided.l1
   repeat' first
   | (with_reducible exact ih0 _ _ _ _ _ _ _)
   | (with_reducible exact ih1 _ _ _ _ _ _ _)
   | (with_reducible exact ih2 _ _ _ _ _ _)
   | (with_reducible exact ih3 _ _ _ _ _ _ _)
   | (with_reducible exact impl_ActionFor.mono _ _ _ _ _)
   | (with_reducible exact impl_AppliesTo.mono _ _ _ _ _)
   | (with_reducible exact impl_DecideRule.mono _ _ _ _ _)
   | (with_reducible exact impl_IsBefore.mono _ _ _ _ _ _ _ _ _ _ _ _ _ _ _ _ _)
   | (with_reducible exact impl_SortRules.mono _ _)
   | (with_reducible exact impl_WhoDecides.mono _ _ _ _ _)
   | (with_reducible exact laws_contains.mono _ _ _)
   | (with_reducible exact spec_DrawDecideRule.mono _ _)
   | (with_reducible exact LeO.refl _)
   | (with_reducible exact LeO.none _)
   | (with_reducible refine LeO.ite ?_ ?_)
   | (with_reducible refine LeO.bind ?_ (fun _ => ?_))
   | exact ih0 _ _ _ _ _ _ _
   | exact ih1 _ _ _ _ _ _ _
   | exact ih2 _ _ _ _ _ _
   | exact ih3 _ _ _ _ _ _ _
   | exact impl_ActionFor.mono _ _ _ _ _
   | exact impl_AppliesTo.mono _ _ _ _ _
   | exact impl_DecideRule.mono _ _ _ _ _
   | exact impl_IsBefore.mono _ _ _ _ _ _ _ _ _ _ _ _ _ _ _ _ _
   | exact impl_SortRules.mono _ _
   | exact impl_WhoDecides.mono _ _ _ _ _
   | exact laws_contains.mono _ _ _
   | exact spec_DrawDecideRule.mono _ _
   | exact LeO.none _
   | refine LeO.ite ?_ ?_
   | refine LeO.bind ?_ (fun _ => ?_)
theorem laws_FnDecided.mono : ∀ a0 k, LeO (laws_FnDecided.f k a0) (laws_FnDecided.f (k + 1) a0) := by
 intro a0 k
 obtain ⟨ih0, ih1, ih2, ih3⟩ := laws_FnDecided.mono_l k
 unfold laws_FnDecided.f
 repeat' first
   | (with_reducible exact ih0 _ _ _ _ _ _ _)
   | (with_reducible exact ih1 _ _ _ _ _ _ _)
   | (with_reducible exact ih2 _ _ _ _ _ _)
   | (with_reducible exact ih3 _ _ _ _ _ _ _)
   | (with_reducible exact impl_ActionFor.mono _ _ _ _ _)
   | (with_reducible exact impl_AppliesTo.mono _ _ _ _ _)
   | (with_reducible exact impl_DecideRule.mono _ _ _ _ _)
   | (with_reducible exact impl_IsBefore.mono _ _ _ _ _ _ _ _ _ _ _ _ _ _ _ _ _)
   | (with_reducible exact impl_SortRules.mono _ _)
   | (with_reducible exact impl_WhoDecides.mono _ _ _ _ _)
   | (with_reducible exact laws_contains.mono _ _ _)
   | (with_reducible exact spec_DrawDecideRule.mono _ _)
   | (with_reducible exact LeO.refl _)
   | (with_reducible exact LeO.none _)
   | (with_reducible refine LeO.ite ?_ ?_)
   | (with_reducible refine LeO.bind ?_ (fun _ => ?_))
   | exact ih0 _ _ _ _ _ _ _
   | exact ih1 _ _ _ _ _ _ _
   | exact ih2 _ _ _ _ _ _
   | exact ih3 _ _ _ _ _ _ _
   | exact impl_ActionFor.mono _ _ _ _ _
   | exact impl_AppliesTo.mono _ _ _ _ _
   | exact impl_DecideRule.mono _ _ _ _ _
   | exact impl_IsBefore.mono _ _ _ _ _ _ _ _ _ _ _ _ _ _ _ _ _
   | exact impl_SortRules.mono _ _
   | exact impl_WhoDecides.mono _ _ _ _ _
   | exact laws_contains.mono _ _ _
   | exact spec_DrawDecideRule.mono _ _
   | exact LeO.none _
   | refine LeO.ite ?_ ?_
   | refine LeO.bind ?_ (fun _ => ?_)
def laws_FnDecided.T11 : Bool × List (List Nat × List Nat) := (true, [([], []), ([], []), ([], []), ([1, 2], [1, 2]), ([3], [3]), ([0, 4], [0, 4]), ([5], [5]), ([], []), ([], []), ([7, 8], [7, 8]), ([9], [9]), ([6, 10], [6, 10])])
def laws_FnDecided.B11 : List Nat := [0, 0, 0, 6, 14, 31, 63, 0, 0, 384, 896, 2047]
theorem laws_FnDecided.tab11 : rtab .any (opsOf Try.f5 11) = laws_FnDecided.T11 := by kernel_rfl
theorem laws_FnDecided.bits11 : waitsOk laws_FnDecided.T11.2 laws_FnDecided.B11 = true := by kernel_rfl
def laws_FnDecided.T13 : Bool × List (List Nat × List Nat) := (true, [([], []), ([0], [0]), ([1], [1]), ([2], [2]), ([2], [2]), ([3, 4, 2, 2], [2, 3, 4]), ([2], [2]), ([2], [2]), ([6, 7, 2], [2, 6, 7]), ([8, 2], [2, 8]), ([9, 2], [2, 9]), ([5, 10, 2], [2, 5, 10]), ([11, 5, 2], [2, 11]), ([12], [12]), ([12], [12]), ([13, 14, 12, 12], [12, 13, 14]), ([12], [12]), ([12], [12]), ([16, 17, 12], [12, 16, 17]), ([18, 12], [12, 18]), ([19, 12], [12, 19]), ([15, 20, 12], [12, 15, 20]), ([12, 21, 2], [2, 12, 21]), ([2, 22], [2, 22])])
def laws_FnDecided.B13 : List Nat := [0, 1, 3, 7, 7, 31, 7, 7, 199, 455, 967, 2047, 4095, 8191, 8191, 32767, 8191, 8191, 204799, 466943, 991231, 2097151, 4194303, 8388607]
theorem laws_FnDecided.tab13 : rtab .any (opsOf Try.f5 13) = laws_FnDecided.T13 := by kernel_rfl
theorem laws_FnDecided.bits13 : waitsOk laws_FnDecided.T13.2 laws_FnDecided.B13 = true := by kernel_rfl
def laws_FnDecided.T19 : Bool × List (List Nat × List Nat) := (true, [([], []), ([], []), ([0, 1], [0, 1]), ([2], [2]), ([], []), ([], []), ([5], [5]), ([4, 6], [4, 6]), ([7], [7]), ([3, 8], [3, 8])])
def laws_FnDecided.B19 : List Nat := [0, 0, 3, 7, 0, 0, 32, 112, 240, 511]
theorem laws_FnDecided.tab19 : rtab .any (opsOf Try.f5 19) = laws_FnDecided.T19 := by kernel_rfl
theorem laws_FnDecided.bits19 : waitsOk laws_FnDecided.T19.2 laws_FnDecided.B19 = true := by kernel_rfl
def laws_FnDecided.T22 : Bool × List (List Nat × List Nat) := (true, [([], []), ([0], [0]), ([], []), ([2], [2]), ([1, 3], [1, 3]), ([4], [4]), ([5], [5]), ([6, 5], [5, 6]), ([7, 5, 5], [5, 7]), ([8], [8]), ([8], [8]), ([9, 10, 8], [8, 9, 10]), ([11, 8], [8, 11]), ([8], [8]), ([8], [8]), ([13, 14, 8], [8, 13, 14]), ([15, 8], [8, 15]), ([12, 16, 8, 8], [8, 12, 16]), ([8, 17, 5], [5, 8, 17]), ([5, 18], [5, 18]), ([19, 17, 0, 1, 2, 3, 4, 5, 6, 7, 8, 9, 10, 11, 12, 13, 14, 15, 16, 17, 18, 19], [19])])
def laws_FnDecided.B22 : List Nat := [0, 1, 0, 4, 15, 31, 63, 127, 255, 511, 511, 2047, 4095, 511, 511, 25087, 57855, 131071, 262143, 524287, 1048575]
theorem laws_FnDecided.tab22 : rtab .any (opsOf Try.f5 22) = laws_FnDecided.T22 := by kernel_rfl
theorem laws_FnDecided.bits22 : waitsOk laws_FnDecided.T22.2 laws_FnDecided.B22 = true := by kernel_rfl
set_option maxHeartbeats 8000000 in
set_option maxRecDepth 100000 in
theorem laws_FnDecided.calls (k : Nat) (A0 : Option Addr) (c0 : Nat) (l0 : List Int) (r : Bool) (w : World) (hr0 : Kd.C (Kd.int .u8) w A0 l0.length l0) (hc0 : l0.length ≤ c0) (h : laws_FnDecided.f k l0 = some r) (hr_ : r = true) :
  Calls Try.prog 5 #[.slice A0 l0.length c0] w fun e w' => e = .returned (.bool r) ∧ Below w.heap.size w w' := by
 have HRT := Aside0.mk hr_
 clear hr_
 have hu28 := Try.underlying28
 have hu37 := Try.underlying37
 have HR0 := Aside0.mk hr0
 have HC0 := Aside0.mk hc0
 clear hr0 hc0
 have HB := am (Below.refl w.heap.size w)
 have H : ((laws_big.f l0).bind fun t694 => (if t694 = true then (some true) else ((spec_DrawDecideRule.f k l0).bind fun bt695 => ((impl_DecideRule.f k bt695.1 bt695.2.1 bt695.2.2.1 bt695.2.2.2).bind fun t702 => ((impl_AppliesTo.f k bt695.1 bt695.2.1 bt695.2.2.1 bt695.2.2.2).bind fun t703 => (if ((decide (t702 < 0)) != ((t703.length : Int) == 0)) = true then (laws_FnDecided.j0 k bt695.1 t702 t703 true bt695.2.1 bt695.2.2.1 bt695.2.2.2) else (if t702 ≥ 0 then ((laws_contains.f k t703 t702).bind fun t706 => (if t706 = true then (if t702 < 0 then ((impl_ActionFor.f k bt695.1 bt695.2.1 bt695.2.2.1 bt695.2.2.2).bind fun t707 => (if t707 = 1 then ((impl_WhoDecides.f k bt695.1 bt695.2.1 bt695.2.2.1 bt695.2.2.2).bind fun t708 => (laws_FnDecided.j0 k bt695.1 t702 t703 (t708 != 0) bt695.2.1 bt695.2.2.1 bt695.2.2.2)) else (laws_FnDecided.j0 k bt695.1 t702 t703 true bt695.2.1 bt695.2.2.1 bt695.2.2.2))) else (laws_FnDecided.j0 k bt695.1 t702 t703 false bt695.2.1 bt695.2.2.1 bt695.2.2.2)) else (laws_FnDecided.j0 k bt695.1 t702 t703 true bt695.2.1 bt695.2.2.1 bt695.2.2.2))) else (if t702 < 0 then ((impl_ActionFor.f k bt695.1 bt695.2.1 bt695.2.2.1 bt695.2.2.2).bind fun t709 => (if t709 = 1 then ((impl_WhoDecides.f k bt695.1 bt695.2.1 bt695.2.2.1 bt695.2.2.2).bind fun t710 => (laws_FnDecided.j0 k bt695.1 t702 t703 (t710 != 0) bt695.2.1 bt695.2.2.1 bt695.2.2.2)) else (laws_FnDecided.j0 k bt695.1 t702 t703 true bt695.2.1 bt695.2.2.1 bt695.2.2.2))) else (laws_FnDecided.j0 k bt695.1 t702 t703 false bt695.2.1 bt695.2.2.1 bt695.2.2.2))))))))) = some r := h
 clear h
 replace H := Option.bind_eq_some_iff.mp H
 obtain ⟨t694, A20, H⟩ := H
 replace H : (if t694 = true then (some true) else ((spec_DrawDecideRule.f k l0).bind fun bt695 => ((impl_DecideRule.f k bt695.1 bt695.2.1 bt695.2.2.1 bt695.2.2.2).bind fun t702 => ((impl_AppliesTo.f k bt695.1 bt695.2.1 bt695.2.2.1 bt695.2.2.2).bind fun t703 => (if ((decide (t702 < 0)) != ((t703.length : Int) == 0)) = true then (laws_FnDecided.j0 k bt695.1 t702 t703 true bt695.2.1 bt695.2.2.1 bt695.2.2.2) else (if t702 ≥ 0 then ((laws_contains.f k t703 t702).bind fun t706 => (if t706 = true then (if t702 < 0 then ((impl_ActionFor.f k bt695.1 bt695.2.1 bt695.2.2.1 bt695.2.2.2).bind fun t707 => (if t707 = 1 then ((impl_WhoDecides.f k bt695.1 bt695.2.1 bt695.2.2.1 bt695.2.2.2).bind fun t708 => (laws_FnDecided.j0 k bt695.1 t702 t703 (t708 != 0) bt695.2.1 bt695.2.2.1 bt695.2.2.2)) else (laws_FnDecided.j0 k bt695.1 t702 t703 true bt695.2.1 bt695.2.2.1 bt695.2.2.2))) else (laws_FnDecided.j0 k bt695.1 t702 t703 false bt695.2.1 bt695.2.2.1 bt695.2.2.2)) else (laws_FnDecided.j0 k bt695.1 t702 t703 true bt695.2.1 bt695.2.2.1 bt695.2.2.2))) else (if t702 < 0 then ((impl_ActionFor.f k bt695.1 bt695.2.1 bt695.2.2.1 bt695.2.2.2).bind fun t709 => (if t709 = 1 then ((impl_WhoDecides.f k bt695.1 bt695.2.1 bt695.2.2.1 bt695.2.2.2).bind fun t710 => (laws_FnDecided.j0 k bt695.1 t702 t703 (t710 != 0) bt695.2.1 bt695.2.2.1 bt695.2.2.2)) else (laws_FnDecided.j0 k bt695.1 t702 t703 true bt695.2.1 bt695.2.2.1 bt695.2.2.2))) else (laws_FnDecided.j0 k bt695.1 t702 t703 false bt695.2.1 bt695.2.2.1 bt695.2.2.2)))))))) = some r := H
 have A2 := Aside0.mk A20
 clear A20
 by_cases c3 : t694 = true
 ·subst c3
  have H1 : (some true) = some r := by rw [if_pos rfl] at H; exact H
  clear H
  have H := H1
  clear H1
  obtain rfl := Option.some.inj H
  go_enter Try.func5, Try.ntmps5
  go_wp2_with (first | ((with_reducible refine gate_callee (f := 7) rfl ?_); refine goesL_ (some 12) rfl rfl Try.func7 (by kernel_rfl) rfl #[.slice A0 l0.length c0] rfl (by (try simp only [List.map_toArray, List.map_cons, List.map_nil]); first | done | rfl | (simp only [List.length_drop, List.length_take]; rfl)) ?_; (with_reducible refine (laws_big.calls _ _ l0 true _ ?side1 ?side2 A2.out).mono ?_); (case side1 => exact cB (HR0.out)); (case side2 => exact HC0.out); rintro e w' ⟨rfl, ⟨nd, rfl⟩⟩; refine ⟨_, rfl, ?_⟩))
  go_ret
  exact ⟨by first | rfl | (simp [errW_none, errW_some] <;> rfl) | (simp [*, errW_none, errW_some] <;> rfl), sB HB.out⟩
 ·replace c3 := Bool.eq_false_iff.mpr c3
  subst c3
  have H1 : ((spec_DrawDecideRule.f k l0).bind fun bt695 => ((impl_DecideRule.f k bt695.1 bt695.2.1 bt695.2.2.1 bt695.2.2.2).bind fun t702 => ((impl_AppliesTo.f k bt695.1 bt695.2.1 bt695.2.2.1 bt695.2.2.2).bind fun t703 => (if ((decide (t702 < 0)) != ((t703.length : Int) == 0)) = true then (laws_FnDecided.j0 k bt695.1 t702 t703 true bt695.2.1 bt695.2.2.1 bt695.2.2.2) else (if t702 ≥ 0 then ((laws_contains.f k t703 t702).bind fun t706 => (if t706 = true then (if t702 < 0 then ((impl_ActionFor.f k bt695.1 bt695.2.1 bt695.2.2.1 bt695.2.2.2).bind fun t707 => (if t707 = 1 then ((impl_WhoDecides.f k bt695.1 bt695.2.1 bt695.2.2.1 bt695.2.2.2).bind fun t708 => (laws_FnDecided.j0 k bt695.1 t702 t703 (t708 != 0) bt695.2.1 bt695.2.2.1 bt695.2.2.2)) else (laws_FnDecided.j0 k bt695.1 t702 t703 true bt695.2.1 bt695.2.2.1 bt695.2.2.2))) else (laws_FnDecided.j0 k bt695.1 t702 t703 false bt695.2.1 bt695.2.2.1 bt695.2.2.2)) else (laws_FnDecided.j0 k bt695.1 t702 t703 true bt695.2.1 bt695.2.2.1 bt695.2.2.2))) else (if t702 < 0 then ((impl_ActionFor.f k bt695.1 bt695.2.1 bt695.2.2.1 bt695.2.2.2).bind fun t709 => (if t709 = 1 then ((impl_WhoDecides.f k bt695.1 bt695.2.1 bt695.2.2.1 bt695.2.2.2).bind fun t710 => (laws_FnDecided.j0 k bt695.1 t702 t703 (t710 != 0) bt695.2.1 bt695.2.2.1 bt695.2.2.2)) else (laws_FnDecided.j0 k bt695.1 t702 t703 true bt695.2.1 bt695.2.2.1 bt695.2.2.2))) else (laws_FnDecided.j0 k bt695.1 t702 t703 false bt695.2.1 bt695.2.2.1 bt695.2.2.2))))))) = some r := by rw [if_neg (show ¬ (false = true) by decide)] at H; exact H
  clear H
  have H := H1
  clear H1
  replace H := Option.bind_eq_some_iff.mp H
  obtain ⟨⟨t695, t698, t699, t700⟩, A40, H⟩ := H
  replace H : ((impl_DecideRule.f k t695 t698 t699 t700).bind fun t702 => ((impl_AppliesTo.f k t695 t698 t699 t700).bind fun t703 => (if ((decide (t702 < 0)) != ((t703.length : Int) == 0)) = true then (laws_FnDecided.j0 k t695 t702 t703 true t698 t699 t700) else (if t702 ≥ 0 then ((laws_contains.f k t703 t702).bind fun t706 => (if t706 = true then (if t702 < 0 then ((impl_ActionFor.f k t695 t698 t699 t700).bind fun t707 => (if t707 = 1 then ((impl_WhoDecides.f k t695 t698 t699 t700).bind fun t708 => (laws_FnDecided.j0 k t695 t702 t703 (t708 != 0) t698 t699 t700)) else (laws_FnDecided.j0 k t695 t702 t703 true t698 t699 t700))) else (laws_FnDecided.j0 k t695 t702 t703 false t698 t699 t700)) else (laws_FnDecided.j0 k t695 t702 t703 true t698 t699 t700))) else (if t702 < 0 then ((impl_ActionFor.f k t695 t698 t699 t700).bind fun t709 => (if t709 = 1 then ((impl_WhoDecides.f k t695 t698 t699 t700).bind fun t710 => (laws_FnDecided.j0 k t695 t702 t703 (t710 != 0) t698 t699 t700)) else (laws_FnDecided.j0 k t695 t702 t703 true t698 t699 t700))) else (laws_FnDecided.j0 k t695 t702 t703 false t698 t699 t700)))))) = some r := H
  have A4 := Aside0.mk A40
  clear A40
  replace H := Option.bind_eq_some_iff.mp H
  obtain ⟨t702, A50, H⟩ := H
  replace H : ((impl_AppliesTo.f k t695 t698 t699 t700).bind fun t703 => (if ((decide (t702 < 0)) != ((t703.length : Int) == 0)) = true then (laws_FnDecided.j0 k t695 t702 t703 true t698 t699 t700) else (if t702 ≥ 0 then ((laws_contains.f k t703 t702).bind fun t706 => (if t706 = true then (if t702 < 0 then ((impl_ActionFor.f k t695 t698 t699 t700).bind fun t707 => (if t707 = 1 then ((impl_WhoDecides.f k t695 t698 t699 t700).bind fun t708 => (laws_FnDecided.j0 k t695 t702 t703 (t708 != 0) t698 t699 t700)) else (laws_FnDecided.j0 k t695 t702 t703 true t698 t699 t700))) else (laws_FnDecided.j0 k t695 t702 t703 false t698 t699 t700)) else (laws_FnDecided.j0 k t695 t702 t703 true t698 t699 t700))) else (if t702 < 0 then ((impl_ActionFor.f k t695 t698 t699 t700).bind fun t709 => (if t709 = 1 then ((impl_WhoDecides.f k t695 t698 t699 t700).bind fun t710 => (laws_FnDecided.j0 k t695 t702 t703 (t710 != 0) t698 t699 t700)) else (laws_FnDecided.j0 k t695 t702 t703 true t698 t699 t700))) else (laws_FnDecided.j0 k t695 t702 t703 false t698 t699 t700))))) = some r := H
  have A5 := Aside0.mk A50
  clear A50
  replace H := Option.bind_eq_some_iff.mp H
  obtain ⟨t703, A60, H⟩ := H
  replace H : (if ((decide (t702 < 0)) != ((t703.length : Int) == 0)) = true then (laws_FnDecided.j0 k t695 t702 t703 true t698 t699 t700) else (if t702 ≥ 0 then ((laws_contains.f k t703 t702).bind fun t706 => (if t706 = true then (if t702 < 0 then ((impl_ActionFor.f k t695 t698 t699 t700).bind fun t707 => (if t707 = 1 then ((impl_WhoDecides.f k t695 t698 t699 t700).bind fun t708 => (laws_FnDecided.j0 k t695 t702 t703 (t708 != 0) t698 t699 t700)) else (laws_FnDecided.j0 k t695 t702 t703 true t698 t699 t700))) else (laws_FnDecided.j0 k t695 t702 t703 false t698 t699 t700)) else (laws_FnDecided.j0 k t695 t702 t703 true t698 t699 t700))) else (if t702 < 0 then ((impl_ActionFor.f k t695 t698 t699 t700).bind fun t709 => (if t709 = 1 then ((impl_WhoDecides.f k t695 t698 t699 t700).bind fun t710 => (laws_FnDecided.j0 k t695 t702 t703 (t710 != 0) t698 t699 t700)) else (laws_FnDecided.j0 k t695 t702 t703 true t698 t699 t700))) else (laws_FnDecided.j0 k t695 t702 t703 false t698 t699 t700)))) = some r := H
  have A6 := Aside0.mk A60
  clear A60
  have HC7 := Aside0.mk H
  clear H
  go_enter Try.func5, Try.ntmps5
  go_upto_region 6 with (first | ((with_reducible refine gate_callee (f := 7) rfl ?_); refine goesL_ (some 12) rfl rfl Try.func7 (by kernel_rfl) rfl #[.slice A0 l0.length c0] rfl (by (try simp only [List.map_toArray, List.map_cons, List.map_nil]); first | done | rfl | (simp only [List.length_drop, List.length_take]; rfl)) ?_; (with_reducible refine (laws_big.calls _ _ l0 false _ ?side1 ?side2 A2.out).mono ?_); (case side1 => exact cB (HR0.out)); (case side2 => exact HC0.out); rintro e w' ⟨rfl, ⟨nd, rfl⟩⟩; refine ⟨_, rfl, ?_⟩) | ((with_reducible refine gate_callee (f := 8) rfl ?_); refine goesL_ (some 15) rfl rfl Try.func8 (by kernel_rfl) rfl #[.slice A0 l0.length c0] rfl (by (try simp only [List.map_toArray, List.map_cons, List.map_nil]); first | done | rfl | (simp only [List.length_drop, List.length_take]; rfl)) ?_; (with_reducible refine (spec_DrawDecideRule.calls k _ _ l0 t695 t698 t699 t700 _ ?side1 ?side2 A4.out).mono ?_); (case side1 => exact cB (HR0.out)); (case side2 => exact HC0.out); rintro e w8 ⟨v696, rfl, ho0, hb⟩; refine ⟨_, rfl, ?_⟩; have n0_ := am (Kd.R_lower ho0 (below_size (sB HB.out))); have n1_ := am (below_step (sB HB.out) hb); clear HB; have HO697 := n0_; have HB := n1_; clear n0_ n1_; (try clear hb); (try clear hb2); (try clear hk); (try clear hi); (try clear ho0)) | ((with_reducible refine gate_dst (N := 4) rfl ?_); refine box_event ?hg (N := 4) ?hd (cs := #[.int .i64 0, .int .i64 0, .int .i64 0]) (t := 28) ?hr ?_; (case hd => rfl); (case hg => rfl); (case hr => first | (go_simp; done) | (go_simp; rfl)); intro gb701 hg w9 hbox hb; have n0_ := am (Kd.R_below (rB HO697.out) hb); have q_ := hbx_ (sB HB.out) hg hb; have n1_ := q_.1; have n2_ := am (hbox); have n3_ := q_.2; have n4_ := n3_; clear HO697; clear HB; have HO697 := n0_; have HB := n1_; have BK701 := n2_; have GW701 := n3_; have GE701 := n4_; clear n0_ n1_ n2_ n3_ n4_; clear hb hbox hg; obtain ⟨hcz10_0, hcz10_1, hcz10_2, hfz10_0, hfz10_1, hfz10_2⟩ := blk3 BK701.out; obtain ⟨Ao11, co11, eo11⟩ := Kd.R_slice HO697.out; subst eo11) | ((with_reducible refine gate_callee (f := 11) rfl ?_); refine goesL_ (some 20) rfl rfl Try.func11 (by kernel_rfl) rfl #[.slice Ao11 t695.length co11, .agg #[.int .i64 t698, .int .i64 t699, .int .i64 t700]] rfl (by (try simp only [List.map_toArray, List.map_cons, List.map_nil]); first | done | rfl | (simp only [List.length_drop, List.length_take]; rfl)) ?_; (with_reducible refine (impl_DecideRule.calls k _ _ t695 t698 t699 t700 t702 _ ?side1 ?side2 A5.out).mono ?_); (case side1 => refine (Kd.R_reads' (e := 37) (base := w.heap.size) (ok := fun k_ => True) (n := t695.length) (c := co11) ?_).2.2; exact (by (with_reducible repeat (first | apply Kd.R_alloc | apply Kd.R_drewN | apply Kd.R_drew)); exact (Kd.R_mono (Kd.R_far (p := ⟨gb701, 2, none⟩) (Kd.R_far (p := ⟨gb701, 1, none⟩) (Kd.R_far (p := ⟨gb701, 0, none⟩) (Kd.R_types HO697.out BK701.out (by decide)) (fun _ hk => hk.2) (.int .i64 t698)) (fun _ hk => hk.2) (.int .i64 t699)) (fun _ hk => hk.2) (.int .i64 t700)) (fun _ h_ => h_.1)))); (case side2 => exact (Kd.R_reads' HO697.out).2.1); rintro e w12 ⟨rfl, hb⟩; refine ⟨_, rfl, ?_⟩; replace HO697 := am (Kd.R_below (by (with_reducible repeat (first | apply Kd.R_alloc | apply Kd.R_drewN | apply Kd.R_drew)); exact (Kd.R_mono (Kd.R_far (p := ⟨gb701, 2, none⟩) (Kd.R_far (p := ⟨gb701, 1, none⟩) (Kd.R_far (p := ⟨gb701, 0, none⟩) (Kd.R_types HO697.out BK701.out (by decide)) (fun _ hk => hk.2) (.int .i64 t698)) (fun _ hk => hk.2) (.int .i64 t699)) (fun _ hk => hk.2) (.int .i64 t700)) (fun _ h_ => h_.1))) hb); replace BK701 := am (blk_below (g := gb701) (o := .cells #[.int .i64 t698, .int .i64 t699, .int .i64 t700] 28 (0, 0)) (by refine bB ?_; refine blk_put (cs := #[.int .i64 t698, .int .i64 t699, .int .i64 0]) ?_ 2 _ rfl; refine bB ?_; refine blk_put (cs := #[.int .i64 t698, .int .i64 0, .int .i64 0]) ?_ 1 _ rfl; refine bB ?_; refine blk_put (cs := #[.int .i64 0, .int .i64 0, .int .i64 0]) ?_ 0 _ rfl; refine bB ?_; exact BK701.out) hb); replace HB := am (below_step (sB HB.out) hb); (try clear hb); (try clear hb2); (try clear hk); (try clear hi); obtain ⟨hcz13_0, hcz13_1, hcz13_2, hfz13_0, hfz13_1, hfz13_2⟩ := blk3 BK701.out) | ((with_reducible refine gate_callee (f := 27) rfl ?_); refine goesL_ (some 23) rfl rfl Try.func27 (by kernel_rfl) rfl #[.slice Ao11 t695.length co11, .agg #[.int .i64 t698, .int .i64 t699, .int .i64 t700]] rfl (by (try simp only [List.map_toArray, List.map_cons, List.map_nil]); first | done | rfl | (simp only [List.length_drop, List.length_take]; rfl)) ?_; (with_reducible refine (impl_AppliesTo.calls k _ _ t695 t698 t699 t700 t703 _ ?side1 ?side2 A6.out).mono ?_); (case side1 => exact cB ((Kd.R_reads' HO697.out).2.2)); (case side2 => exact (Kd.R_reads' HO697.out).2.1); rintro e w14 ⟨v704, rfl, ho0, hb⟩; refine ⟨_, rfl, ?_⟩; have n0_ := am (Kd.R_below (rB HO697.out) hb); have n1_ := am (Kd.R_lower ho0 (below_size (sB HB.out))); have n2_ := am (blk_below (bB BK701.out) hb); have n3_ := am (below_step (sB HB.out) hb); clear HO697; clear BK701; clear HB; have HO697 := n0_; have HO705 := n1_; have BK701 := n2_; have HB := n3_; clear n0_ n1_ n2_ n3_; (try clear hb); (try clear hb2); (try clear hk); (try clear hi); (try clear ho0)))
  (try simp only [Act.put, List.setIfInBounds_toArray, List.set_cons_zero, List.set_cons_succ])
  go_cut [55] (fun v55 wc => ∃ (kq : Nat) (x55_6 : Bool), v55 = .bool x55_6 ∧ Aside0 (laws_FnDecided.j0 kq t695 t702 t703 x55_6 t698 t699 t700 = some r) ∧ Aside0 (kq ≤ k) ∧ Aside0 (Kd.R k37 37 wc w.heap.size (fun _ => True) (.slice Ao11 t695.length co11) t695) ∧ Aside0 (Kd.R (Kd.int .i64) 3 wc w.heap.size (fun _ => True) v704 t703) ∧ Aside0 (wc.heap[gb701]? = some (.cells #[.int .i64 t698, .int .i64 t699, .int .i64 t700] 28 (0, 0))) ∧ Aside0 (Below w.heap.size w wc))
  case first =>
   have H := HC7.out
   clear HC7
   by_cases c15 : ((decide (t702 < 0)) != ((t703.length : Int) == 0)) = true
   ·rw [if_pos c15] at H
    have c15b0 : ((decide (t702 < 0)) != ((t703.length : Int) == 0)) = true := c15
    (try (have c15b1 : decide ((decide (t702 < 0)) = ((t703.length : Int) == 0)) = false := by simpa using c15))
    (try (have c15b2 : ((decide (t702 < 0)) == ((t703.length : Int) == 0)) = false := by simpa using c15))
    (try (have c15b3 : ¬ ((decide (t702 < 0)) = ((t703.length : Int) == 0)) := by simpa using c15))
    clear c15
    (first | rw [c15b0] | (simp only [i64_w, i32_w]; rw [c15b0]) | skip)
    have H' := Aside0.mk H
    clear H
    obtain ⟨Ao16, co16, eo16⟩ := Kd.R_slice HO705.out
    subst eo16
    go_wp2
    go_meet
    case rel => exact ⟨_, (true), (by first | rfl | (simp; done) | (simp [*]; done)), H', ⟨by first | omega | exact Nat.le_refl _⟩, ⟨by (with_reducible repeat (first | apply Kd.R_alloc | apply Kd.R_drewN | apply Kd.R_drew)); exact HO697.out⟩, ⟨by (with_reducible repeat (first | apply Kd.R_alloc | apply Kd.R_drewN | apply Kd.R_drew)); exact HO705.out⟩, ⟨bB BK701.out⟩, ⟨sB HB.out⟩⟩
   ·rw [if_neg c15] at H
    have c15b0 : ((decide (t702 < 0)) != ((t703.length : Int) == 0)) = false := by simpa using c15
    (try (have c15b1 : decide ((decide (t702 < 0)) = ((t703.length : Int) == 0)) = true := by simpa using c15))
    (try (have c15b2 : ((decide (t702 < 0)) == ((t703.length : Int) == 0)) = true := by simpa using c15))
    clear c15
    (first | rw [c15b0] | (simp only [i64_w, i32_w]; rw [c15b0]) | skip)
    by_cases c17 : t702 ≥ 0
    ·rw [if_pos c17] at H
     have c17b0 : decide (0 ≤ t702) = true := decide_eq_true c17
     clear c17
     replace H := Option.bind_eq_some_iff.mp H
     obtain ⟨t706, A180, H⟩ := H
     replace H : (if t706 = true then (if t702 < 0 then ((impl_ActionFor.f k t695 t698 t699 t700).bind fun t707 => (if t707 = 1 then ((impl_WhoDecides.f k t695 t698 t699 t700).bind fun t708 => (laws_FnDecided.j0 k t695 t702 t703 (t708 != 0) t698 t699 t700)) else (laws_FnDecided.j0 k t695 t702 t703 true t698 t699 t700))) else (laws_FnDecided.j0 k t695 t702 t703 false t698 t699 t700)) else (laws_FnDecided.j0 k t695 t702 t703 true t698 t699 t700)) = some r := H
     have A18 := Aside0.mk A180
     clear A180
     by_cases c19 : t706 = true
     ·subst c19
      have H1 : (if t702 < 0 then ((impl_ActionFor.f k t695 t698 t699 t700).bind fun t707 => (if t707 = 1 then ((impl_WhoDecides.f k t695 t698 t699 t700).bind fun t708 => (laws_FnDecided.j0 k t695 t702 t703 (t708 != 0) t698 t699 t700)) else (laws_FnDecided.j0 k t695 t702 t703 true t698 t699 t700))) else (laws_FnDecided.j0 k t695 t702 t703 false t698 t699 t700)) = some r := by rw [if_pos rfl] at H; exact H
      clear H
      have H := H1
      clear H1
      by_cases c20 : t702 < 0
      ·rw [if_pos c20] at H
       have c20b0 : decide (t702 < 0) = true := decide_eq_true c20
       have c20z := (bne_eq_false_iff_eq.1 c15b0).symm.trans c20b0
       clear c20
       replace H := Option.bind_eq_some_iff.mp H
       obtain ⟨t707, A210, H⟩ := H
       replace H : (if t707 = 1 then ((impl_WhoDecides.f k t695 t698 t699 t700).bind fun t708 => (laws_FnDecided.j0 k t695 t702 t703 (t708 != 0) t698 t699 t700)) else (laws_FnDecided.j0 k t695 t702 t703 true t698 t699 t700)) = some r := H
       have A21 := Aside0.mk A210
       clear A210
       by_cases c22 : t707 = 1
       ·rw [if_pos c22] at H
        have c22b0 : (t707 == 1) = true := beq_iff_eq.mpr c22
        have c22b1 : (t707 != 1) = false := bne_eq_false_iff_eq.mpr c22
        clear c22
        replace H := Option.bind_eq_some_iff.mp H
        obtain ⟨t708, A230, H⟩ := H
        replace H : (laws_FnDecided.j0 k t695 t702 t703 (t708 != 0) t698 t699 t700) = some r := H
        have A23 := Aside0.mk A230
        clear A230
        have H' := Aside0.mk H
        clear H
        obtain ⟨Ao24, co24, eo24⟩ := Kd.R_slice HO705.out
        subst eo24
        go_wp2_with (first | (go_at_call 28; (with_reducible refine (laws_contains.calls k _ _ t703 t702 true _ ?side1 ?side2 A18.out).mono ?_); (case side1 => exact cB ((Kd.R_reads' HO705.out).2.2)); (case side2 => exact (Kd.R_reads' HO705.out).2.1); rintro e w' ⟨rfl, ⟨nd, rfl⟩⟩; obtain ⟨hcz25_0, hcz25_1, hcz25_2, hfz25_0, hfz25_1, hfz25_2⟩ := blk3 BK701.out) | (go_at_call 29; (with_reducible refine (impl_ActionFor.calls k _ _ t695 t698 t699 t700 t707 _ ?side1 ?side2 A21.out).mono ?_); (case side1 => exact cB ((Kd.R_reads' HO697.out).2.2)); (case side2 => exact (Kd.R_reads' HO697.out).2.1); rintro e w26 ⟨rfl, hb⟩; replace HO697 := am (Kd.R_below (rB HO697.out) hb); replace HO705 := am (Kd.R_below (rB HO705.out) hb); replace BK701 := am (blk_below (bB BK701.out) hb); replace HB := am (below_step (sB HB.out) hb); (try clear hb); (try clear hb2); (try clear hk); (try clear hi); obtain ⟨hcz27_0, hcz27_1, hcz27_2, hfz27_0, hfz27_1, hfz27_2⟩ := blk3 BK701.out) | (go_at_call 30; (with_reducible refine (impl_WhoDecides.calls k _ _ t695 t698 t699 t700 t708 _ ?side1 ?side2 A23.out).mono ?_); (case side1 => exact cB ((Kd.R_reads' HO697.out).2.2)); (case side2 => exact (Kd.R_reads' HO697.out).2.1); rintro e w28 ⟨rfl, hb⟩; replace HO697 := am (Kd.R_below (rB HO697.out) hb); replace HO705 := am (Kd.R_below (rB HO705.out) hb); replace BK701 := am (blk_below (bB BK701.out) hb); replace HB := am (below_step (sB HB.out) hb); (try clear hb); (try clear hb2); (try clear hk); (try clear hi)))
        go_meet
        case rel => exact ⟨_, ((t708 != 0)), (by first | rfl | (simp; done) | (simp [*]; done)), H', ⟨by first | omega | exact Nat.le_refl _⟩, ⟨by (with_reducible repeat (first | apply Kd.R_alloc | apply Kd.R_drewN | apply Kd.R_drew)); exact HO697.out⟩, ⟨by (with_reducible repeat (first | apply Kd.R_alloc | apply Kd.R_drewN | apply Kd.R_drew)); exact HO705.out⟩, ⟨bB BK701.out⟩, ⟨sB HB.out⟩⟩
       ·rw [if_neg c22] at H
        have c22b0 : (t707 == 1) = false := beq_eq_false_iff_ne.mpr c22
        have c22b1 : (t707 != 1) = true := bne_iff_ne.mpr c22
        have H' := Aside0.mk H
        clear H
        obtain ⟨Ao29, co29, eo29⟩ := Kd.R_slice HO705.out
        subst eo29
        go_wp2_with (first | (go_at_call 28; (with_reducible refine (laws_contains.calls k _ _ t703 t702 true _ ?side1 ?side2 A18.out).mono ?_); (case side1 => exact cB ((Kd.R_reads' HO705.out).2.2)); (case side2 => exact (Kd.R_reads' HO705.out).2.1); rintro e w' ⟨rfl, ⟨nd, rfl⟩⟩; obtain ⟨hcz30_0, hcz30_1, hcz30_2, hfz30_0, hfz30_1, hfz30_2⟩ := blk3 BK701.out) | (go_at_call 29; (with_reducible refine (impl_ActionFor.calls k _ _ t695 t698 t699 t700 t707 _ ?side1 ?side2 A21.out).mono ?_); (case side1 => exact cB ((Kd.R_reads' HO697.out).2.2)); (case side2 => exact (Kd.R_reads' HO697.out).2.1); rintro e w31 ⟨rfl, hb⟩; replace HO697 := am (Kd.R_below (rB HO697.out) hb); replace HO705 := am (Kd.R_below (rB HO705.out) hb); replace BK701 := am (blk_below (bB BK701.out) hb); replace HB := am (below_step (sB HB.out) hb); (try clear hb); (try clear hb2); (try clear hk); (try clear hi)))
        go_meet
        case rel => exact ⟨_, (true), (by first | rfl | (simp; done) | (simp [*]; done)), H', ⟨by first | omega | exact Nat.le_refl _⟩, ⟨by (with_reducible repeat (first | apply Kd.R_alloc | apply Kd.R_drewN | apply Kd.R_drew)); exact HO697.out⟩, ⟨by (with_reducible repeat (first | apply Kd.R_alloc | apply Kd.R_drewN | apply Kd.R_drew)); exact HO705.out⟩, ⟨bB BK701.out⟩, ⟨sB HB.out⟩⟩
      ·rw [if_neg c20] at H
       have c20b0 : decide (t702 < 0) = false := decide_eq_false c20
       have c20z := (bne_eq_false_iff_eq.1 c15b0).symm.trans c20b0
       clear c20
       have H' := Aside0.mk H
       clear H
       obtain ⟨Ao32, co32, eo32⟩ := Kd.R_slice HO705.out
       subst eo32
       go_wp2_with (first | (go_at_call 28; (with_reducible refine (laws_contains.calls k _ _ t703 t702 true _ ?side1 ?side2 A18.out).mono ?_); (case side1 => exact cB ((Kd.R_reads' HO705.out).2.2)); (case side2 => exact (Kd.R_reads' HO705.out).2.1); rintro e w' ⟨rfl, ⟨nd, rfl⟩⟩))
       go_meet
       case rel => exact ⟨_, (false), (by first | rfl | (simp; done) | (simp [*]; done)), H', ⟨by first | omega | exact Nat.le_refl _⟩, ⟨by (with_reducible repeat (first | apply Kd.R_alloc | apply Kd.R_drewN | apply Kd.R_drew)); exact HO697.out⟩, ⟨by (with_reducible repeat (first | apply Kd.R_alloc | apply Kd.R_drewN | apply Kd.R_drew)); exact HO705.out⟩, ⟨bB BK701.out⟩, ⟨sB HB.out⟩⟩
     ·replace c19 := Bool.eq_false_iff.mpr c19
      subst c19
      have H1 : (laws_FnDecided.j0 k t695 t702 t703 true t698 t699 t700) = some r := by rw [if_neg (show ¬ (false = true) by decide)] at H; exact H
      clear H
      have H := H1
      clear H1
      have H' := Aside0.mk H
      clear H
      obtain ⟨Ao33, co33, eo33⟩ := Kd.R_slice HO705.out
      subst eo33
      go_wp2_with (first | (go_at_call 28; (with_reducible refine (laws_contains.calls k _ _ t703 t702 false _ ?side1 ?side2 A18.out).mono ?_); (case side1 => exact cB ((Kd.R_reads' HO705.out).2.2)); (case side2 => exact (Kd.R_reads' HO705.out).2.1); rintro e w' ⟨rfl, ⟨nd, rfl⟩⟩))
      go_meet
      case rel => exact ⟨_, (true), (by first | rfl | (simp; done) | (simp [*]; done)), H', ⟨by first | omega | exact Nat.le_refl _⟩, ⟨by (with_reducible repeat (first | apply Kd.R_alloc | apply Kd.R_drewN | apply Kd.R_drew)); exact HO697.out⟩, ⟨by (with_reducible repeat (first | apply Kd.R_alloc | apply Kd.R_drewN | apply Kd.R_drew)); exact HO705.out⟩, ⟨bB BK701.out⟩, ⟨sB HB.out⟩⟩
    ·rw [if_neg c17] at H
     have c17b0 : decide (0 ≤ t702) = false := decide_eq_false c17
     clear c17
     by_cases c34 : t702 < 0
     ·rw [if_pos c34] at H
      have c34b0 : decide (t702 < 0) = true := decide_eq_true c34
      have c34z := (bne_eq_false_iff_eq.1 c15b0).symm.trans c34b0
      clear c34
      replace H := Option.bind_eq_some_iff.mp H
      obtain ⟨t709, A350, H⟩ := H
      replace H : (if t709 = 1 then ((impl_WhoDecides.f k t695 t698 t699 t700).bind fun t710 => (laws_FnDecided.j0 k t695 t702 t703 (t710 != 0) t698 t699 t700)) else (laws_FnDecided.j0 k t695 t702 t703 true t698 t699 t700)) = some r := H
      have A35 := Aside0.mk A350
      clear A350
      by_cases c36 : t709 = 1
      ·rw [if_pos c36] at H
       have c36b0 : (t709 == 1) = true := beq_iff_eq.mpr c36
       have c36b1 : (t709 != 1) = false := bne_eq_false_iff_eq.mpr c36
       clear c36
       replace H := Option.bind_eq_some_iff.mp H
       obtain ⟨t710, A370, H⟩ := H
       replace H : (laws_FnDecided.j0 k t695 t702 t703 (t710 != 0) t698 t699 t700) = some r := H
       have A37 := Aside0.mk A370
       clear A370
       have H' := Aside0.mk H
       clear H
       obtain ⟨Ao38, co38, eo38⟩ := Kd.R_slice HO705.out
       subst eo38
       have hcz39_0 : w14.cell? ⟨gb701, 0, none⟩ = some (.int .i64 t698) := (blk_cell BK701.out 0).trans rfl
       have hcz39_1 : w14.cell? ⟨gb701, 1, none⟩ = some (.int .i64 t699) := (blk_cell BK701.out 1).trans rfl
       have hcz39_2 : w14.cell? ⟨gb701, 2, none⟩ = some (.int .i64 t700) := (blk_cell BK701.out 2).trans rfl
       have hfz39_0 := blk_frozen BK701.out 0
       have hfz39_1 := blk_frozen BK701.out 1
       have hfz39_2 := blk_frozen BK701.out 2
       go_wp2_with (first | (go_at_call 29; (with_reducible refine (impl_ActionFor.calls k _ _ t695 t698 t699 t700 t709 _ ?side1 ?side2 A35.out).mono ?_); (case side1 => exact cB ((Kd.R_reads' HO697.out).2.2)); (case side2 => exact (Kd.R_reads' HO697.out).2.1); rintro e w40 ⟨rfl, hb⟩; replace HO697 := am (Kd.R_below (rB HO697.out) hb); replace HO705 := am (Kd.R_below (rB HO705.out) hb); replace BK701 := am (blk_below (bB BK701.out) hb); replace HB := am (below_step (sB HB.out) hb); (try clear hb); (try clear hb2); (try clear hk); (try clear hi); obtain ⟨hcz41_0, hcz41_1, hcz41_2, hfz41_0, hfz41_1, hfz41_2⟩ := blk3 BK701.out) | (go_at_call 30; (with_reducible refine (impl_WhoDecides.calls k _ _ t695 t698 t699 t700 t710 _ ?side1 ?side2 A37.out).mono ?_); (case side1 => exact cB ((Kd.R_reads' HO697.out).2.2)); (case side2 => exact (Kd.R_reads' HO697.out).2.1); rintro e w42 ⟨rfl, hb⟩; replace HO697 := am (Kd.R_below (rB HO697.out) hb); replace HO705 := am (Kd.R_below (rB HO705.out) hb); replace BK701 := am (blk_below (bB BK701.out) hb); replace HB := am (below_step (sB HB.out) hb); (try clear hb); (try clear hb2); (try clear hk); (try clear hi)))
       go_meet
       case rel => exact ⟨_, ((t710 != 0)), (by first | rfl | (simp; done) | (simp [*]; done)), H', ⟨by first | omega | exact Nat.le_refl _⟩, ⟨by (with_reducible repeat (first | apply Kd.R_alloc | apply Kd.R_drewN | apply Kd.R_drew)); exact HO697.out⟩, ⟨by (with_reducible repeat (first | apply Kd.R_alloc | apply Kd.R_drewN | apply Kd.R_drew)); exact HO705.out⟩, ⟨bB BK701.out⟩, ⟨sB HB.out⟩⟩
      ·rw [if_neg c36] at H
       have c36b0 : (t709 == 1) = false := beq_eq_false_iff_ne.mpr c36
       have c36b1 : (t709 != 1) = true := bne_iff_ne.mpr c36
       have H' := Aside0.mk H
       clear H
       obtain ⟨Ao43, co43, eo43⟩ := Kd.R_slice HO705.out
       subst eo43
       have hcz44_0 : w14.cell? ⟨gb701, 0, none⟩ = some (.int .i64 t698) := (blk_cell BK701.out 0).trans rfl
       have hcz44_1 : w14.cell? ⟨gb701, 1, none⟩ = some (.int .i64 t699) := (blk_cell BK701.out 1).trans rfl
       have hcz44_2 : w14.cell? ⟨gb701, 2, none⟩ = some (.int .i64 t700) := (blk_cell BK701.out 2).trans rfl
       have hfz44_0 := blk_frozen BK701.out 0
       have hfz44_1 := blk_frozen BK701.out 1
       have hfz44_2 := blk_frozen BK701.out 2
       go_wp2_with (first | (go_at_call 29; (with_reducible refine (impl_ActionFor.calls k _ _ t695 t698 t699 t700 t709 _ ?side1 ?side2 A35.out).mono ?_); (case side1 => exact cB ((Kd.R_reads' HO697.out).2.2)); (case side2 => exact (Kd.R_reads' HO697.out).2.1); rintro e w45 ⟨rfl, hb⟩; replace HO697 := am (Kd.R_below (rB HO697.out) hb); replace HO705 := am (Kd.R_below (rB HO705.out) hb); replace BK701 := am (blk_below (bB BK701.out) hb); replace HB := am (below_step (sB HB.out) hb); (try clear hb); (try clear hb2); (try clear hk); (try clear hi)))
       go_meet
       case rel => exact ⟨_, (true), (by first | rfl | (simp; done) | (simp [*]; done)), H', ⟨by first | omega | exact Nat.le_refl _⟩, ⟨by (with_reducible repeat (first | apply Kd.R_alloc | apply Kd.R_drewN | apply Kd.R_drew)); exact HO697.out⟩, ⟨by (with_reducible repeat (first | apply Kd.R_alloc | apply Kd.R_drewN | apply Kd.R_drew)); exact HO705.out⟩, ⟨bB BK701.out⟩, ⟨sB HB.out⟩⟩
     ·rw [if_neg c34] at H
      have c34b0 : decide (t702 < 0) = false := decide_eq_false c34
      have c34z := (bne_eq_false_iff_eq.1 c15b0).symm.trans c34b0
      clear c34
      have H' := Aside0.mk H
      clear H
      obtain ⟨Ao46, co46, eo46⟩ := Kd.R_slice HO705.out
      subst eo46
      go_wp2
      go_meet
      case rel => exact ⟨_, (false), (by first | rfl | (simp; done) | (simp [*]; done)), H', ⟨by first | omega | exact Nat.le_refl _⟩, ⟨by (with_reducible repeat (first | apply Kd.R_alloc | apply Kd.R_drewN | apply Kd.R_drew)); exact HO697.out⟩, ⟨by (with_reducible repeat (first | apply Kd.R_alloc | apply Kd.R_drewN | apply Kd.R_drew)); exact HO705.out⟩, ⟨bB BK701.out⟩, ⟨sB HB.out⟩⟩
  case rest =>
   clear HC7
   try clear c1
   try clear c2
   try clear p2
   try clear c3
   try clear c5
   try clear c7
   try clear c8
   try clear c11
   try clear c15
   try clear c15b0
   try clear c15b1
   try clear c15b2
   try clear c17
   try clear c17b0
   try clear c19
   try clear c20
   try clear c20b0
   try clear c22
   try clear c22b0
   try clear c22b1
   try clear c27
   try clear c34
   try clear c34b0
   try clear c36
   try clear c36b0
   try clear c36b1
   try clear hcz10_0 hcz10_1 hcz10_2
   try clear hcz13_0 hcz13_1 hcz13_2
   try clear hcz25_0 hcz25_1 hcz25_2
   try clear hcz27_0 hcz27_1 hcz27_2
   try clear hcz30_0 hcz30_1 hcz30_2
   try clear hcz39_0 hcz39_1 hcz39_2
   try clear hcz41_0 hcz41_1 hcz41_2
   try clear hcz44_0 hcz44_1 hcz44_2
   try clear hfz10_0 hfz10_1 hfz10_2
   try clear hfz13_0 hfz13_1 hfz13_2
   try clear hfz25_0 hfz25_1 hfz25_2
   try clear hfz27_0 hfz27_1 hfz27_2
   try clear hfz30_0 hfz30_1 hfz30_2
   try clear hfz39_0 hfz39_1 hfz39_2
   try clear hfz41_0 hfz41_1 hfz41_2
   try clear hfz44_0 hfz44_1 hfz44_2
   obtain ⟨kq, x55_6, rfl, HA, HJ6, HO_3, HO_6, BK701, HB⟩ := hcut
   cases kq with
   | zero => exact absurd HA.out (by simp [laws_FnDecided.j0])
   | succ kj6 =>
    have H := HA.out
    clear HA
    simp only [laws_FnDecided.j0] at H
    by_cases c47 : x55_6 = true
    ·subst c47
     have H1 : (some false) = some r := by rw [if_pos rfl] at H; exact H
     clear H
     have H := H1
     clear H1
     exact absurd ((Option.some.inj H).trans HRT.out) (by decide)
    ·replace c47 := Bool.eq_false_iff.mpr c47
     subst c47
     have H1 : (laws_FnDecided.l0 kj6 t695 t702 t703 0 t698 t699 t700) = some r := by rw [if_neg (show ¬ (false = true) by decide)] at H; exact H
     clear H
     have H := H1
     clear H1
     have H' := Aside0.mk H
     clear H
     go_wp2
     go_loopg [7] kj6 (fun kq v7 w' => ∃ (x7_2 : Int), v7 = .int .i64 x7_2 ∧ Aside0 (laws_FnDecided.l0 kq t695 t702 t703 x7_2 t698 t699 t700 = some r) ∧ Aside0 (kq ≤ kj6) ∧ Aside0 (Kd.R k37 37 w' w.heap.size (fun _ => True) (.slice Ao11 t695.length co11) t695) ∧ Aside0 (Kd.R (Kd.int .i64) 3 w' w.heap.size (fun _ => True) v704 t703) ∧ Aside0 (w'.heap[gb701]? = some (.cells #[.int .i64 t698, .int .i64 t699, .int .i64 t700] 28 (0, 0))) ∧ Aside0 (Below w.heap.size w w'))
     case atStart => exact ⟨(0), (by first | rfl | (simp; done) | (simp [*]; done)), H', ⟨Nat.le_refl _⟩, ⟨by (with_reducible repeat (first | apply Kd.R_alloc | apply Kd.R_drewN | apply Kd.R_drew)); exact HO_3.out⟩, ⟨by (with_reducible repeat (first | apply Kd.R_alloc | apply Kd.R_drewN | apply Kd.R_drew)); exact HO_6.out⟩, ⟨bB BK701.out⟩, ⟨sB HB.out⟩⟩
     case round =>
      clear H'
      try clear c1
      try clear c2
      try clear p2
      try clear c3
      try clear c4
      try clear c5
      try clear c7
      try clear c8
      try clear c11
      try clear c15
      try clear c15b0
      try clear c15b1
      try clear c15b2
      try clear c17
      try clear c17b0
      try clear c19
      try clear c20
      try clear c20b0
      try clear c22
      try clear c22b0
      try clear c22b1
      try clear c27
      try clear c34
      try clear c34b0
      try clear c36
      try clear c36b0
      try clear c36b1
      try clear c47
      try clear hcz10_0 hcz10_1 hcz10_2
      try clear hcz13_0 hcz13_1 hcz13_2
      try clear hcz25_0 hcz25_1 hcz25_2
      try clear hcz27_0 hcz27_1 hcz27_2
      try clear hcz30_0 hcz30_1 hcz30_2
      try clear hcz39_0 hcz39_1 hcz39_2
      try clear hcz41_0 hcz41_1 hcz41_2
      try clear hcz44_0 hcz44_1 hcz44_2
      try clear hfz10_0 hfz10_1 hfz10_2
      try clear hfz13_0 hfz13_1 hfz13_2
      try clear hfz25_0 hfz25_1 hfz25_2
      try clear hfz27_0 hfz27_1 hfz27_2
      try clear hfz30_0 hfz30_1 hfz30_2
      try clear hfz39_0 hfz39_1 hfz39_2
      try clear hfz41_0 hfz41_1 hfz41_2
      try clear hfz44_0 hfz44_1 hfz44_2
      try clear p2
      obtain ⟨x7_2, rfl, HA, HK2, HO_3, HO_6, BK701, HB⟩ := hrel
      cases gk with
      | zero => exact absurd HA.out (by simp [laws_FnDecided.l0])
      | succ k2 =>
       have H := HA.out
       clear HA
       simp only [laws_FnDecided.l0] at H
       by_cases c48 : x7_2 < (t703.length : Int)
       ·rw [if_pos c48] at H
        have c48b0 : decide (x7_2 < (t703.length : Int)) = true := decide_eq_true c48
        clear c48
        by_cases c49 : 0 ≤ x7_2
        ·rw [if_pos c49] at H
         have c49b0 : decide (0 ≤ x7_2) = true := decide_eq_true c49
         clear c49
         by_cases c50 : 0 ≤ (rd t703 x7_2)
         ·rw [if_pos c50] at H
          have c50b0 : decide (0 ≤ (rd t703 x7_2)) = true := decide_eq_true c50
          clear c50
          by_cases c51 : (rd t703 x7_2) < (t695.length : Int)
          ·rw [if_pos c51] at H
           have c51b0 : decide ((rd t703 x7_2) < (t695.length : Int)) = true := decide_eq_true c51
           clear c51
           by_cases c52 : 0 ≤ t702
           ·rw [if_pos c52] at H
            have c52b0 : decide (0 ≤ t702) = true := decide_eq_true c52
            clear c52
            by_cases c53 : t702 < (t695.length : Int)
            ·rw [if_pos c53] at H
             have c53b0 : decide (t702 < (t695.length : Int)) = true := decide_eq_true c53
             clear c53
             replace H := Option.bind_eq_some_iff.mp H
             obtain ⟨t714, A540, H⟩ := H
             replace H : (if t714 = true then (some false) else (laws_FnDecided.l0 k2 t695 t702 t703 (wrap64 (x7_2 + 1)) t698 t699 t700)) = some r := H
             have A54 := Aside0.mk A540
             clear A540
             by_cases c55 : t714 = true
             ·subst c55
              have H1 : (some false) = some r := by rw [if_pos rfl] at H; exact H
              clear H
              have H := H1
              clear H1
              exact absurd ((Option.some.inj H).trans HRT.out) (by decide)
             ·replace c55 := Bool.eq_false_iff.mpr c55
              subst c55
              have H1 : (laws_FnDecided.l0 k2 t695 t702 t703 (wrap64 (x7_2 + 1)) t698 t699 t700) = some r := by rw [if_neg (show ¬ (false = true) by decide)] at H; exact H
              clear H
              have H := H1
              clear H1
              have H' := Aside0.mk H
              clear H
              obtain ⟨Ao56, co56, eo56⟩ := Kd.R_slice HO_6.out
              subst eo56
              try go_wp2
              replace HO_3 := am (Kd.R_drew HO_3.out)
              replace HO_6 := am (Kd.R_drew HO_6.out)
              replace BK701 := am (blk_drew BK701.out)
              replace HB := am (below_drew1 HB.out)
              have p711 : 0 ≤ (x7_2 : Int) := of_decide_eq_true (by first | (with_reducible assumption) | assumption)
              have q711 : x7_2 < (t703.length : Int) := of_decide_eq_true (by first | (with_reducible assumption) | assumption)
              obtain ⟨ad711, e711, hx711_0⟩ := Kd.at_int (Kd.R_reads' HO_6.out).2.2 x7_2 p711 q711
              cases e711
              replace p711 := eq_true p711
              replace q711 := eq_true q711
              have p712 : 0 ≤ ((rd t703 x7_2) : Int) := of_decide_eq_true (by first | (with_reducible assumption) | assumption)
              have q712 : (rd t703 x7_2) < (t695.length : Int) := of_decide_eq_true (by first | (with_reducible assumption) | assumption)
              obtain ⟨ad712, e712, hx712_0, hx712_1, hx712_2, hx712_3, hx712_4, hx712_5, hx712_6, hx712_7⟩ := at_T37 (Kd.R_reads' HO_3.out).2.2 (rd t703 x7_2) p712 q712
              cases e712
              replace p712 := eq_true p712
              replace q712 := eq_true q712
              have p713 : 0 ≤ (t702 : Int) := of_decide_eq_true (by first | (with_reducible assumption) | assumption)
              have q713 : t702 < (t695.length : Int) := of_decide_eq_true (by first | (with_reducible assumption) | assumption)
              obtain ⟨ad713, e713, hx713_0, hx713_1, hx713_2, hx713_3, hx713_4, hx713_5, hx713_6, hx713_7⟩ := at_T37 (Kd.R_reads' HO_3.out).2.2 t702 p713 q713
              obtain rfl : ad712 = ad713 := (by injection e713)
              replace p713 := eq_true p713
              replace q713 := eq_true q713
              refine start_ (n := 12) (S := fun w' => w'.cell? (ad711.add (x7_2).toNat) = some (.int .i64 (rd t703 x7_2)) ∧ w'.cell? (ad712.add (((rd t703 x7_2)).toNat * 8)) = some (.int .i64 ((rd_T37 t695 (rd t703 x7_2)).f0)) ∧ w'.cell? ⟨(ad712.add (((rd t703 x7_2)).toNat * 8)).block, (ad712.add (((rd t703 x7_2)).toNat * 8)).off + 1, none⟩ = some (.int .i64 ((rd_T37 t695 (rd t703 x7_2)).f1)) ∧ w'.cell? ⟨(ad712.add (((rd t703 x7_2)).toNat * 8)).block, (ad712.add (((rd t703 x7_2)).toNat * 8)).off + 2, none⟩ = some (.int .i64 ((rd_T37 t695 (rd t703 x7_2)).f2.f0)) ∧ w'.cell? ⟨(ad712.add (((rd t703 x7_2)).toNat * 8)).block, (ad712.add (((rd t703 x7_2)).toNat * 8)).off + 3, none⟩ = some (.int .i64 ((rd_T37 t695 (rd t703 x7_2)).f2.f1)) ∧ w'.cell? ⟨(ad712.add (((rd t703 x7_2)).toNat * 8)).block, (ad712.add (((rd t703 x7_2)).toNat * 8)).off + 4, none⟩ = some (.int .i64 ((rd_T37 t695 (rd t703 x7_2)).f3)) ∧ w'.cell? ⟨(ad712.add (((rd t703 x7_2)).toNat * 8)).block, (ad712.add (((rd t703 x7_2)).toNat * 8)).off + 5, none⟩ = some (.int .i64 ((rd_T37 t695 (rd t703 x7_2)).f4)) ∧ w'.cell? ⟨(ad712.add (((rd t703 x7_2)).toNat * 8)).block, (ad712.add (((rd t703 x7_2)).toNat * 8)).off + 6, none⟩ = some (.int .i64 ((rd_T37 t695 (rd t703 x7_2)).f5.f0)) ∧ w'.cell? ⟨(ad712.add (((rd t703 x7_2)).toNat * 8)).block, (ad712.add (((rd t703 x7_2)).toNat * 8)).off + 7, none⟩ = some (.int .i64 ((rd_T37 t695 (rd t703 x7_2)).f5.f1)) ∧ w'.cell? (ad712.add ((t702).toNat * 8)) = some (.int .i64 ((rd_T37 t695 t702).f0)) ∧ w'.cell? ⟨(ad712.add ((t702).toNat * 8)).block, (ad712.add ((t702).toNat * 8)).off + 1, none⟩ = some (.int .i64 ((rd_T37 t695 t702).f1)) ∧ w'.cell? ⟨(ad712.add ((t702).toNat * 8)).block, (ad712.add ((t702).toNat * 8)).off + 2, none⟩ = some (.int .i64 ((rd_T37 t695 t702).f2.f0)) ∧ w'.cell? ⟨(ad712.add ((t702).toNat * 8)).block, (ad712.add ((t702).toNat * 8)).off + 3, none⟩ = some (.int .i64 ((rd_T37 t695 t702).f2.f1)) ∧ w'.cell? ⟨(ad712.add ((t702).toNat * 8)).block, (ad712.add ((t702).toNat * 8)).off + 4, none⟩ = some (.int .i64 ((rd_T37 t695 t702).f3)) ∧ w'.cell? ⟨(ad712.add ((t702).toNat * 8)).block, (ad712.add ((t702).toNat * 8)).off + 5, none⟩ = some (.int .i64 ((rd_T37 t695 t702).f4)) ∧ w'.cell? ⟨(ad712.add ((t702).toNat * 8)).block, (ad712.add ((t702).toNat * 8)).off + 6, none⟩ = some (.int .i64 ((rd_T37 t695 t702).f5.f0)) ∧ w'.cell? ⟨(ad712.add ((t702).toNat * 8)).block, (ad712.add ((t702).toNat * 8)).off + 7, none⟩ = some (.int .i64 ((rd_T37 t695 t702).f5.f1))) (ds := []) #[z,z,z,z,z,z,z,z,z,z,z,z] (by kernel_rfl) rfl rfl ⟨hx711_0, hx712_0, hx712_1, hx712_2, hx712_3, hx712_4, hx712_5, hx712_6, hx712_7, hx713_0, hx713_1, hx713_2, hx713_3, hx713_4, hx713_5, hx713_6, hx713_7⟩ (fun hHeld => ?_); refine with_tabW laws_FnDecided.tab11 laws_FnDecided.bits11 (fun HT_ HW_ => ?_)
              generalize wr.drew = w57 at HO_3 HO_6 BK701 HB hx711_0 hx712_0 hx712_1 hx712_2 hx712_3 hx712_4 hx712_5 hx712_6 hx712_7 hx713_0 hx713_1 hx713_2 hx713_3 hx713_4 hx713_5 hx713_6 hx713_7 hHeld ⊢
              refine pure_ (i := 0) (N := some 62) (v := ?_) (a' := ?_) #[o,z,z,z,z,z,z,z,z,z,z,z] rfl rfl (any_of HT_.out (by kernel_rfl)) (fun _ _ _ h => h) (Or.inl ⟨by rfl, ?_⟩) ?_ ?_
              rotate_left
              ·intro w'
               go_simp
               with_reducible rfl
              rotate_left
              ·simp only [Act.put, qa, qb, qc, i64_w, i32_w]
               rfl
              refine pure_ (i := 1) (N := some 63) (v := ?_) (a' := ?_) #[o,o,z,z,z,z,z,z,z,z,z,z] rfl rfl (any_of HT_.out (by kernel_rfl)) (fun _ _ _ h => h) (Or.inl ⟨by rfl, ?_⟩) ?_ ?_
              rotate_left
              ·intro w'
               go_simp
               with_reducible rfl
              rotate_left
              ·simp only [Act.put, qa, qb, qc, i64_w, i32_w]
               rfl
              refine pure_ (i := 2) (N := some 64) (v := ?_) (a' := ?_) #[o,o,o,z,z,z,z,z,z,z,z,z] rfl rfl (any_of HT_.out (by kernel_rfl)) (fun _ _ _ h => h) (Or.inl ⟨by rfl, ?_⟩) ?_ ?_
              rotate_left
              ·intro w'
               go_simp
               with_reducible rfl
              rotate_left
              ·simp only [Act.put, qa, qb, qc, i64_w, i32_w]
               rfl
              refine pure_ (i := 3) (N := some 65) (v := ?_) (a' := ?_) #[o,o,o,o,z,z,z,z,z,z,z,z] rfl rfl (any_of HT_.out (by kernel_rfl)) (fun _ _ _ h => h) (Or.inl ⟨by rfl, ?_⟩) ?_ ?_
              rotate_left
              ·intro w'
               go_simp
               with_reducible rfl
              rotate_left
              ·simp only [Act.put, qa, qb, qc, i64_w, i32_w]
               rfl
              refine pure_ (i := 7) (N := some 69) (v := ?_) (a' := ?_) #[o,o,o,o,z,z,z,o,z,z,z,z] rfl rfl (any_of HT_.out (by kernel_rfl)) (fun _ _ _ h => h) (Or.inl ⟨by rfl, ?_⟩) ?_ ?_
              rotate_left
              ·intro w'
               go_simp
               with_reducible rfl
              rotate_left
              ·simp only [Act.put, qa, qb, qc, i64_w, i32_w]
               rfl
              refine pure_ (i := 8) (N := some 70) (v := ?_) (a' := ?_) #[o,o,o,o,z,z,z,o,o,z,z,z] rfl rfl (any_of HT_.out (by kernel_rfl)) (fun _ _ _ h => h) (Or.inl ⟨by rfl, ?_⟩) ?_ ?_
              rotate_left
              ·intro w'
               go_simp
               with_reducible rfl
              rotate_left
              ·simp only [Act.put, qa, qb, qc, i64_w, i32_w]
               rfl
              refine pure_ (i := 9) (N := some 71) (v := ?_) (a' := ?_) #[o,o,o,o,z,z,z,o,o,o,z,z] rfl rfl (any_of HT_.out (by kernel_rfl)) (fun _ _ _ h => h) (Or.inl ⟨by rfl, ?_⟩) ?_ ?_
              rotate_left
              ·intro w'
               go_simp
               with_reducible rfl
              rotate_left
              ·simp only [Act.put, qa, qb, qc, i64_w, i32_w]
               rfl
              refine take_ (i := 4) (N := some 66) (v := ?_) (a' := ?_) #[o,o,o,o,o,z,z,o,o,o,z,z] rfl rfl (take_ofW HT_.out HW_.out (by kernel_rfl)) (fun _ _ _ h => h) (Or.inl ⟨by rfl, ?_⟩) hHeld ?_ ?_
              rotate_left
              ·rintro w' ⟨s0, s1, s2, s3, s4, s5, s6, s7, s8, s9, s10, s11, s12, s13, s14, s15, s16⟩
               go_simp
               with_reducible rfl
              rotate_left
              ·simp only [Act.put, qa, qb, qc, i64_w, i32_w]
               rfl
              refine pure_ (i := 5) (N := some 67) (v := ?_) (a' := ?_) #[o,o,o,o,o,o,z,o,o,o,z,z] rfl rfl (any_of HT_.out (by kernel_rfl)) (fun _ _ _ h => h) (Or.inl ⟨by rfl, ?_⟩) ?_ ?_
              rotate_left
              ·intro w'
               go_simp
               with_reducible rfl
              rotate_left
              ·simp only [Act.put, qa, qb, qc, i64_w, i32_w]
               rfl
              refine take_ (i := 6) (N := some 68) (v := ?_) (a' := ?_) #[o,o,o,o,o,o,o,o,o,o,z,z] rfl rfl (take_ofW HT_.out HW_.out (by kernel_rfl)) (fun _ _ _ h => h) (Or.inl ⟨by rfl, ?_⟩) hHeld ?_ ?_
              rotate_left
              ·rintro w' ⟨s0, s1, s2, s3, s4, s5, s6, s7, s8, s9, s10, s11, s12, s13, s14, s15, s16⟩
               go_simp
               with_reducible rfl
              rotate_left
              ·simp only [Act.put, qa, qb, qc, i64_w, i32_w]
               rfl
              refine take_ (i := 10) (N := some 72) (v := ?_) (a' := ?_) #[o,o,o,o,o,o,o,o,o,o,o,z] rfl rfl (take_ofW HT_.out HW_.out (by kernel_rfl)) (fun _ _ _ h => h) (Or.inl ⟨by rfl, ?_⟩) hHeld ?_ ?_
              rotate_left
              ·rintro w' ⟨s0, s1, s2, s3, s4, s5, s6, s7, s8, s9, s10, s11, s12, s13, s14, s15, s16⟩
               go_simp
               with_reducible rfl
              rotate_left
              ·simp only [Act.put, qa, qb, qc, i64_w, i32_w]
               rfl
              refine one_ (i := 11) (N := some 73) #[o,o,o,o,o,o,o,o,o,o,o,o] rfl rfl (one_of HT_.out (by kernel_rfl)) (by decide) (fun K hK => ?_)
              refine goes_ Try.func31 (by kernel_rfl) rfl #[.agg #[.int .i64 ((rd_T37 t695 (rd t703 x7_2)).f0), .int .i64 ((rd_T37 t695 (rd t703 x7_2)).f1), .int .i64 ((rd_T37 t695 (rd t703 x7_2)).f2.f0), .int .i64 ((rd_T37 t695 (rd t703 x7_2)).f2.f1), .int .i64 ((rd_T37 t695 (rd t703 x7_2)).f3), .int .i64 ((rd_T37 t695 (rd t703 x7_2)).f4), .int .i64 ((rd_T37 t695 (rd t703 x7_2)).f5.f0), .int .i64 ((rd_T37 t695 (rd t703 x7_2)).f5.f1)], .agg #[.int .i64 ((rd_T37 t695 t702).f0), .int .i64 ((rd_T37 t695 t702).f1), .int .i64 ((rd_T37 t695 t702).f2.f0), .int .i64 ((rd_T37 t695 t702).f2.f1), .int .i64 ((rd_T37 t695 t702).f3), .int .i64 ((rd_T37 t695 t702).f4), .int .i64 ((rd_T37 t695 t702).f5.f0), .int .i64 ((rd_T37 t695 t702).f5.f1)]] (by rfl) rfl rfl (by (try simp only [List.map_toArray, List.map_cons, List.map_nil]); first | done | rfl | (simp only [List.length_drop, List.length_take]; rfl)) ?_
              with_reducible refine (impl_IsBefore.calls k2 ((rd_T37 t695 (rd t703 x7_2)).f0) ((rd_T37 t695 (rd t703 x7_2)).f1) ((rd_T37 t695 (rd t703 x7_2)).f2.f0) ((rd_T37 t695 (rd t703 x7_2)).f2.f1) ((rd_T37 t695 (rd t703 x7_2)).f3) ((rd_T37 t695 (rd t703 x7_2)).f4) ((rd_T37 t695 (rd t703 x7_2)).f5.f0) ((rd_T37 t695 (rd t703 x7_2)).f5.f1) ((rd_T37 t695 t702).f0) ((rd_T37 t695 t702).f1) ((rd_T37 t695 t702).f2.f0) ((rd_T37 t695 t702).f2.f1) ((rd_T37 t695 t702).f3) ((rd_T37 t695 t702).f4) ((rd_T37 t695 t702).f5.f0) ((rd_T37 t695 t702).f5.f1) false _ A54.out).mono ?_
              rintro e w58 ⟨rfl, hb⟩
              have HS0_ := (hb.cell (World.block_lt_of_cell? _ _ (hHeld.1))).trans (hHeld.1)
              have HS1_ := (hb.cell (World.block_lt_of_cell? _ _ (hHeld.2.1))).trans (hHeld.2.1)
              have HS2_ := (hb.cell (World.block_lt_of_cell? _ _ (hHeld.2.2.1))).trans (hHeld.2.2.1)
              have HS3_ := (hb.cell (World.block_lt_of_cell? _ _ (hHeld.2.2.2.1))).trans (hHeld.2.2.2.1)
              have HS4_ := (hb.cell (World.block_lt_of_cell? _ _ (hHeld.2.2.2.2.1))).trans (hHeld.2.2.2.2.1)
              have HS5_ := (hb.cell (World.block_lt_of_cell? _ _ (hHeld.2.2.2.2.2.1))).trans (hHeld.2.2.2.2.2.1)
              have HS6_ := (hb.cell (World.block_lt_of_cell? _ _ (hHeld.2.2.2.2.2.2.1))).trans (hHeld.2.2.2.2.2.2.1)
              have HS7_ := (hb.cell (World.block_lt_of_cell? _ _ (hHeld.2.2.2.2.2.2.2.1))).trans (hHeld.2.2.2.2.2.2.2.1)
              have HS8_ := (hb.cell (World.block_lt_of_cell? _ _ (hHeld.2.2.2.2.2.2.2.2.1))).trans (hHeld.2.2.2.2.2.2.2.2.1)
              have HS9_ := (hb.cell (World.block_lt_of_cell? _ _ (hHeld.2.2.2.2.2.2.2.2.2.1))).trans (hHeld.2.2.2.2.2.2.2.2.2.1)
              have HS10_ := (hb.cell (World.block_lt_of_cell? _ _ (hHeld.2.2.2.2.2.2.2.2.2.2.1))).trans (hHeld.2.2.2.2.2.2.2.2.2.2.1)
              have HS11_ := (hb.cell (World.block_lt_of_cell? _ _ (hHeld.2.2.2.2.2.2.2.2.2.2.2.1))).trans (hHeld.2.2.2.2.2.2.2.2.2.2.2.1)
              have HS12_ := (hb.cell (World.block_lt_of_cell? _ _ (hHeld.2.2.2.2.2.2.2.2.2.2.2.2.1))).trans (hHeld.2.2.2.2.2.2.2.2.2.2.2.2.1)
              have HS13_ := (hb.cell (World.block_lt_of_cell? _ _ (hHeld.2.2.2.2.2.2.2.2.2.2.2.2.2.1))).trans (hHeld.2.2.2.2.2.2.2.2.2.2.2.2.2.1)
              have HS14_ := (hb.cell (World.block_lt_of_cell? _ _ (hHeld.2.2.2.2.2.2.2.2.2.2.2.2.2.2.1))).trans (hHeld.2.2.2.2.2.2.2.2.2.2.2.2.2.2.1)
              have HS15_ := (hb.cell (World.block_lt_of_cell? _ _ (hHeld.2.2.2.2.2.2.2.2.2.2.2.2.2.2.2.1))).trans (hHeld.2.2.2.2.2.2.2.2.2.2.2.2.2.2.2.1)
              have HS16_ := (hb.cell (World.block_lt_of_cell? _ _ (hHeld.2.2.2.2.2.2.2.2.2.2.2.2.2.2.2.2))).trans (hHeld.2.2.2.2.2.2.2.2.2.2.2.2.2.2.2.2)
              refine ⟨_, rfl, ?_⟩
              replace HO_3 := am (Kd.R_below (rB HO_3.out) hb)
              replace HO_6 := am (Kd.R_below (rB HO_6.out) hb)
              replace BK701 := am (blk_below (bB BK701.out) hb)
              replace HB := am (below_step (sB HB.out) hb)
              (try clear hb)
              (try clear hb2)
              (try clear hk)
              (try clear hi)
              refine hK.out _ _ ⟨HS0_, HS1_, HS2_, HS3_, HS4_, HS5_, HS6_, HS7_, HS8_, HS9_, HS10_, HS11_, HS12_, HS13_, HS14_, HS15_, HS16_⟩ (fun hHeld => ?_)
              clear hK K
              refine norm_ (a' := ?_) ?_ ?_
              rotate_left
              ·show Act.put _ (some 73) _ = _
               simp only [Act.put, qa, qb, qc, i64_w, i32_w]
               rfl
              refine done_ (done_of HT_.out (by kernel_rfl)) ?_
              try go_wp2
              go_roundg k2
              case measure => have := HJ6.out; have := HK2.out; omega
              case rel => exact ⟨(wrap64 (x7_2 + 1)), (by first | rfl | (simp; done) | (simp [*]; done)), H', ⟨by have := HJ6.out; have := HK2.out; omega⟩, ⟨by (with_reducible repeat (first | apply Kd.R_alloc | apply Kd.R_drewN | apply Kd.R_drew)); exact HO_3.out⟩, ⟨by (with_reducible repeat (first | apply Kd.R_alloc | apply Kd.R_drewN | apply Kd.R_drew)); exact HO_6.out⟩, ⟨bB BK701.out⟩, ⟨sB HB.out⟩⟩
            ·rw [if_neg c53] at H
             exact absurd H (by simp)
           ·rw [if_neg c52] at H
            exact absurd H (by simp)
          ·rw [if_neg c51] at H
           exact absurd H (by simp)
         ·rw [if_neg c50] at H
          exact absurd H (by simp)
        ·rw [if_neg c49] at H
         exact absurd H (by simp)
       ·rw [if_neg c48] at H
        have c48b0 : decide (x7_2 < (t703.length : Int)) = false := decide_eq_false c48
        clear c48
        have HC59 := Aside0.mk H
        clear H
        obtain ⟨Ao60, co60, eo60⟩ := Kd.R_slice HO_6.out
        subst eo60
        go_upto_region 13 with (fail)
        go_cut [97] (fun v97 wc => ∃ (kq : Nat) (x97_58 : Bool), v97 = .bool x97_58 ∧ Aside0 (laws_FnDecided.j2 kq t695 t702 x97_58 t698 t699 t700 = some r) ∧ Aside0 (kq ≤ k2) ∧ Aside0 (Kd.R k37 37 wc w.heap.size (fun _ => True) (.slice Ao11 t695.length co11) t695) ∧ Aside0 (wc.heap[gb701]? = some (.cells #[.int .i64 t698, .int .i64 t699, .int .i64 t700] 28 (0, 0))) ∧ Aside0 (Below w.heap.size w wc))
        case first =>
         have H := HC59.out
         clear HC59
         by_cases c61 : t702 ≥ 0
         ·rw [if_pos c61] at H
          have c61b0 : decide (0 ≤ t702) = true := decide_eq_true c61
          clear c61
          (first | rw [c61b0] | (simp only [i64_w, i32_w]; rw [c61b0]) | skip)
          replace H := Option.bind_eq_some_iff.mp H
          obtain ⟨t715, A620, H⟩ := H
          replace H : (if 0 ≤ t702 then (if t702 < (t695.length : Int) then (if t715 = ((rd_T37 t695 t702).f4) then ((impl_WhoDecides.f k2 t695 t698 t699 t700).bind fun t717 => (laws_FnDecided.j2 k2 t695 t702 (t717 != ((rd_T37 t695 t702).f0)) t698 t699 t700)) else (laws_FnDecided.j2 k2 t695 t702 true t698 t699 t700)) else (none)) else (none)) = some r := H
          have A62 := Aside0.mk A620
          clear A620
          by_cases c63 : 0 ≤ t702
          ·rw [if_pos c63] at H
           have c63b0 : decide (0 ≤ t702) = true := decide_eq_true c63
           clear c63
           by_cases c64 : t702 < (t695.length : Int)
           ·rw [if_pos c64] at H
            have c64b0 : decide (t702 < (t695.length : Int)) = true := decide_eq_true c64
            clear c64
            by_cases c65 : t715 = ((rd_T37 t695 t702).f4)
            ·rw [if_pos c65] at H
             have c65b0 : (t715 == ((rd_T37 t695 t702).f4)) = true := beq_iff_eq.mpr c65
             have c65b1 : (t715 != ((rd_T37 t695 t702).f4)) = false := bne_eq_false_iff_eq.mpr c65
             clear c65
             replace H := Option.bind_eq_some_iff.mp H
             obtain ⟨t717, A660, H⟩ := H
             replace H : (laws_FnDecided.j2 k2 t695 t702 (t717 != ((rd_T37 t695 t702).f0)) t698 t699 t700) = some r := H
             have A66 := Aside0.mk A660
             clear A660
             have H' := Aside0.mk H
             clear H
             try go_wp2
             replace HO_3 := am (Kd.R_drew HO_3.out)
             replace HO_6 := am (Kd.R_drew HO_6.out)
             replace BK701 := am (blk_drew BK701.out)
             replace HB := am (below_drew1 HB.out)
             have p716 : 0 ≤ (t702 : Int) := of_decide_eq_true (by first | (with_reducible assumption) | assumption)
             have q716 : t702 < (t695.length : Int) := of_decide_eq_true (by first | (with_reducible assumption) | assumption)
             obtain ⟨ad716, e716, hx716_0, hx716_1, hx716_2, hx716_3, hx716_4, hx716_5, hx716_6, hx716_7⟩ := at_T37 (Kd.R_reads' HO_3.out).2.2 t702 p716 q716
             cases e716
             replace p716 := eq_true p716
             replace q716 := eq_true q716
             have p718 : 0 ≤ (t702 : Int) := of_decide_eq_true (by first | (with_reducible assumption) | assumption)
             have q718 : t702 < (t695.length : Int) := of_decide_eq_true (by first | (with_reducible assumption) | assumption)
             obtain ⟨ad718, e718, hx718_0, hx718_1, hx718_2, hx718_3, hx718_4, hx718_5, hx718_6, hx718_7⟩ := at_T37 (Kd.R_reads' HO_3.out).2.2 t702 p718 q718
             obtain rfl : ad716 = ad718 := (by injection e718)
             replace p718 := eq_true p718
             replace q718 := eq_true q718
             refine start_ (n := 24) (S := fun w' => w'.cell? ⟨gb701, 0, none⟩ = some (.int .i64 t698) ∧ w'.cell? ⟨gb701, 1, none⟩ = some (.int .i64 t699) ∧ w'.cell? ⟨gb701, 2, none⟩ = some (.int .i64 t700) ∧ w'.cell? (ad716.add ((t702).toNat * 8)) = some (.int .i64 ((rd_T37 t695 t702).f0)) ∧ w'.cell? ⟨(ad716.add ((t702).toNat * 8)).block, (ad716.add ((t702).toNat * 8)).off + 1, none⟩ = some (.int .i64 ((rd_T37 t695 t702).f1)) ∧ w'.cell? ⟨(ad716.add ((t702).toNat * 8)).block, (ad716.add ((t702).toNat * 8)).off + 2, none⟩ = some (.int .i64 ((rd_T37 t695 t702).f2.f0)) ∧ w'.cell? ⟨(ad716.add ((t702).toNat * 8)).block, (ad716.add ((t702).toNat * 8)).off + 3, none⟩ = some (.int .i64 ((rd_T37 t695 t702).f2.f1)) ∧ w'.cell? ⟨(ad716.add ((t702).toNat * 8)).block, (ad716.add ((t702).toNat * 8)).off + 4, none⟩ = some (.int .i64 ((rd_T37 t695 t702).f3)) ∧ w'.cell? ⟨(ad716.add ((t702).toNat * 8)).block, (ad716.add ((t702).toNat * 8)).off + 5, none⟩ = some (.int .i64 ((rd_T37 t695 t702).f4)) ∧ w'.cell? ⟨(ad716.add ((t702).toNat * 8)).block, (ad716.add ((t702).toNat * 8)).off + 6, none⟩ = some (.int .i64 ((rd_T37 t695 t702).f5.f0)) ∧ w'.cell? ⟨(ad716.add ((t702).toNat * 8)).block, (ad716.add ((t702).toNat * 8)).off + 7, none⟩ = some (.int .i64 ((rd_T37 t695 t702).f5.f1)) ∧ w'.cell? (ad716.add ((t702).toNat * 8)) = some (.int .i64 ((rd_T37 t695 t702).f0)) ∧ w'.cell? ⟨(ad716.add ((t702).toNat * 8)).block, (ad716.add ((t702).toNat * 8)).off + 1, none⟩ = some (.int .i64 ((rd_T37 t695 t702).f1)) ∧ w'.cell? ⟨(ad716.add ((t702).toNat * 8)).block, (ad716.add ((t702).toNat * 8)).off + 2, none⟩ = some (.int .i64 ((rd_T37 t695 t702).f2.f0)) ∧ w'.cell? ⟨(ad716.add ((t702).toNat * 8)).block, (ad716.add ((t702).toNat * 8)).off + 3, none⟩ = some (.int .i64 ((rd_T37 t695 t702).f2.f1)) ∧ w'.cell? ⟨(ad716.add ((t702).toNat * 8)).block, (ad716.add ((t702).toNat * 8)).off + 4, none⟩ = some (.int .i64 ((rd_T37 t695 t702).f3)) ∧ w'.cell? ⟨(ad716.add ((t702).toNat * 8)).block, (ad716.add ((t702).toNat * 8)).off + 5, none⟩ = some (.int .i64 ((rd_T37 t695 t702).f4)) ∧ w'.cell? ⟨(ad716.add ((t702).toNat * 8)).block, (ad716.add ((t702).toNat * 8)).off + 6, none⟩ = some (.int .i64 ((rd_T37 t695 t702).f5.f0)) ∧ w'.cell? ⟨(ad716.add ((t702).toNat * 8)).block, (ad716.add ((t702).toNat * 8)).off + 7, none⟩ = some (.int .i64 ((rd_T37 t695 t702).f5.f1))) (ds := []) #[z,z,z,z,z,z,z,z,z,z,z,z,z,z,z,z,z,z,z,z,z,z,z,z] (by kernel_rfl) rfl rfl ⟨(blk_cell BK701.out 0).trans rfl, (blk_cell BK701.out 1).trans rfl, (blk_cell BK701.out 2).trans rfl, hx716_0, hx716_1, hx716_2, hx716_3, hx716_4, hx716_5, hx716_6, hx716_7, hx718_0, hx718_1, hx718_2, hx718_3, hx718_4, hx718_5, hx718_6, hx718_7⟩ (fun hHeld => ?_); refine with_tabW laws_FnDecided.tab13 laws_FnDecided.bits13 (fun HT_ HW_ => ?_)
             generalize wr.drew = w67 at HO_3 HO_6 BK701 HB hx716_0 hx716_1 hx716_2 hx716_3 hx716_4 hx716_5 hx716_6 hx716_7 hx718_0 hx718_1 hx718_2 hx718_3 hx718_4 hx718_5 hx718_6 hx718_7 hHeld ⊢
             refine pure_ (i := 0) (N := some 74) (v := ?_) (a' := ?_) #[o,z,z,z,z,z,z,z,z,z,z,z,z,z,z,z,z,z,z,z,z,z,z,z] rfl rfl (any_of HT_.out (by kernel_rfl)) (fun _ _ _ h => h) (Or.inl ⟨by rfl, ?_⟩) ?_ ?_
             rotate_left
             ·intro w'
              go_simp
              with_reducible rfl
             rotate_left
             ·simp only [Act.put, qa, qb, qc, i64_w, i32_w]
              rfl
             refine pure_ (i := 1) (N := some 75) (v := ?_) (a' := ?_) #[o,o,z,z,z,z,z,z,z,z,z,z,z,z,z,z,z,z,z,z,z,z,z,z] rfl rfl (any_of HT_.out (by kernel_rfl)) (fun _ _ _ h => h) (Or.inl ⟨by rfl, ?_⟩) ?_ ?_
             rotate_left
             ·intro w'
              go_simp
              with_reducible rfl
             rotate_left
             ·simp only [Act.put, qa, qb, qc, i64_w, i32_w]
              rfl
             refine pure_ (i := 2) (N := some 76) (v := ?_) (a' := ?_) #[o,o,o,z,z,z,z,z,z,z,z,z,z,z,z,z,z,z,z,z,z,z,z,z] rfl rfl (any_of HT_.out (by kernel_rfl)) (fun _ _ _ h => h) (Or.inl ⟨by rfl, ?_⟩) ?_ ?_
             rotate_left
             ·intro w'
              go_simp
              with_reducible rfl
             rotate_left
             ·simp only [Act.put, qa, qb, qc, i64_w, i32_w]
              rfl
             refine pure_ (i := 3) (N := some 77) (v := ?_) (a' := ?_) #[o,o,o,o,z,z,z,z,z,z,z,z,z,z,z,z,z,z,z,z,z,z,z,z] rfl rfl (any_of HT_.out (by kernel_rfl)) (fun _ _ _ h => h) (Or.inl ⟨by rfl, ?_⟩) ?_ ?_
             rotate_left
             ·intro w'
              go_simp
              with_reducible rfl
             rotate_left
             ·simp only [Act.put, qa, qb, qc, i64_w, i32_w]
              rfl
             refine pure_ (i := 6) (N := some 80) (v := ?_) (a' := ?_) #[o,o,o,o,z,z,o,z,z,z,z,z,z,z,z,z,z,z,z,z,z,z,z,z] rfl rfl (any_of HT_.out (by kernel_rfl)) (fun _ _ _ h => h) (Or.inl ⟨by rfl, ?_⟩) ?_ ?_
             rotate_left
             ·intro w'
              go_simp
              with_reducible rfl
             rotate_left
             ·simp only [Act.put, qa, qb, qc, i64_w, i32_w]
              rfl
             refine pure_ (i := 7) (N := some 81) (v := ?_) (a' := ?_) #[o,o,o,o,z,z,o,o,z,z,z,z,z,z,z,z,z,z,z,z,z,z,z,z] rfl rfl (any_of HT_.out (by kernel_rfl)) (fun _ _ _ h => h) (Or.inl ⟨by rfl, ?_⟩) ?_ ?_
             rotate_left
             ·intro w'
              go_simp
              with_reducible rfl
             rotate_left
             ·simp only [Act.put, qa, qb, qc, i64_w, i32_w]
              rfl
             refine pure_ (i := 8) (N := some 82) (v := ?_) (a' := ?_) #[o,o,o,o,z,z,o,o,o,z,z,z,z,z,z,z,z,z,z,z,z,z,z,z] rfl rfl (any_of HT_.out (by kernel_rfl)) (fun _ _ _ h => h) (Or.inl ⟨by rfl, ?_⟩) ?_ ?_
             rotate_left
             ·intro w'
              go_simp
              with_reducible rfl
             rotate_left
             ·simp only [Act.put, qa, qb, qc, i64_w, i32_w]
              rfl
             refine pure_ (i := 9) (N := some 83) (v := ?_) (a' := ?_) #[o,o,o,o,z,z,o,o,o,o,z,z,z,z,z,z,z,z,z,z,z,z,z,z] rfl rfl (any_of HT_.out (by kernel_rfl)) (fun _ _ _ h => h) (Or.inl ⟨by rfl, ?_⟩) ?_ ?_
             rotate_left
             ·intro w'
              go_simp
              with_reducible rfl
             rotate_left
             ·simp only [Act.put, qa, qb, qc, i64_w, i32_w]
              rfl
             refine take_ (i := 4) (N := some 78) (v := ?_) (a' := ?_) #[o,o,o,o,o,z,o,o,o,o,z,z,z,z,z,z,z,z,z,z,z,z,z,z] rfl rfl (take_ofW HT_.out HW_.out (by kernel_rfl)) (fun _ _ _ h => h) (Or.inl ⟨by rfl, ?_⟩) hHeld ?_ ?_
             rotate_left
             ·rintro w' ⟨s0, s1, s2, s3, s4, s5, s6, s7, s8, s9, s10, s11, s12, s13, s14, s15, s16, s17, s18⟩
              go_simp
              with_reducible rfl
             rotate_left
             ·simp only [Act.put, qa, qb, qc, i64_w, i32_w]
              rfl
             refine take_ (i := 10) (N := some 84) (v := ?_) (a' := ?_) #[o,o,o,o,o,z,o,o,o,o,o,z,z,z,z,z,z,z,z,z,z,z,z,z] rfl rfl (take_ofW HT_.out HW_.out (by kernel_rfl)) (fun _ _ _ h => h) (Or.inl ⟨by rfl, ?_⟩) hHeld ?_ ?_
             rotate_left
             ·rintro w' ⟨s0, s1, s2, s3, s4, s5, s6, s7, s8, s9, s10, s11, s12, s13, s14, s15, s16, s17, s18⟩
              go_simp
              with_reducible rfl
             rotate_left
             ·simp only [Act.put, qa, qb, qc, i64_w, i32_w]
              rfl
             refine one_ (i := 5) (N := some 79) #[o,o,o,o,o,o,o,o,o,o,o,z,z,z,z,z,z,z,z,z,z,z,z,z] rfl rfl (one_of HT_.out (by kernel_rfl)) (by decide) (fun K hK => ?_)
             refine goes_ Try.func29 (by kernel_rfl) rfl #[.slice (some ad716) t695.length co11, .agg #[.int .i64 t698, .int .i64 t699, .int .i64 t700]] (by rfl) rfl rfl (by (try simp only [List.map_toArray, List.map_cons, List.map_nil]); first | done | rfl | (simp only [List.length_drop, List.length_take]; rfl)) ?_
             with_reducible refine (impl_ActionFor.calls k2 _ _ t695 t698 t699 t700 t715 _ ?side1 ?side2 A62.out).mono ?_
             (case side1 => exact cB ((Kd.R_reads' HO_3.out).2.2))
             (case side2 => exact (Kd.R_reads' HO_3.out).2.1)
             rintro e w68 ⟨rfl, hb⟩
             have HS3_ := (hb.cell (World.block_lt_of_cell? _ _ (hHeld.2.2.2.1))).trans (hHeld.2.2.2.1)
             have HS4_ := (hb.cell (World.block_lt_of_cell? _ _ (hHeld.2.2.2.2.1))).trans (hHeld.2.2.2.2.1)
             have HS5_ := (hb.cell (World.block_lt_of_cell? _ _ (hHeld.2.2.2.2.2.1))).trans (hHeld.2.2.2.2.2.1)
             have HS6_ := (hb.cell (World.block_lt_of_cell? _ _ (hHeld.2.2.2.2.2.2.1))).trans (hHeld.2.2.2.2.2.2.1)
             have HS7_ := (hb.cell (World.block_lt_of_cell? _ _ (hHeld.2.2.2.2.2.2.2.1))).trans (hHeld.2.2.2.2.2.2.2.1)
             have HS8_ := (hb.cell (World.block_lt_of_cell? _ _ (hHeld.2.2.2.2.2.2.2.2.1))).trans (hHeld.2.2.2.2.2.2.2.2.1)
             have HS9_ := (hb.cell (World.block_lt_of_cell? _ _ (hHeld.2.2.2.2.2.2.2.2.2.1))).trans (hHeld.2.2.2.2.2.2.2.2.2.1)
             have HS10_ := (hb.cell (World.block_lt_of_cell? _ _ (hHeld.2.2.2.2.2.2.2.2.2.2.1))).trans (hHeld.2.2.2.2.2.2.2.2.2.2.1)
             have HS11_ := (hb.cell (World.block_lt_of_cell? _ _ (hHeld.2.2.2.2.2.2.2.2.2.2.2.1))).trans (hHeld.2.2.2.2.2.2.2.2.2.2.2.1)
             have HS12_ := (hb.cell (World.block_lt_of_cell? _ _ (hHeld.2.2.2.2.2.2.2.2.2.2.2.2.1))).trans (hHeld.2.2.2.2.2.2.2.2.2.2.2.2.1)
             have HS13_ := (hb.cell (World.block_lt_of_cell? _ _ (hHeld.2.2.2.2.2.2.2.2.2.2.2.2.2.1))).trans (hHeld.2.2.2.2.2.2.2.2.2.2.2.2.2.1)
             have HS14_ := (hb.cell (World.block_lt_of_cell? _ _ (hHeld.2.2.2.2.2.2.2.2.2.2.2.2.2.2.1))).trans (hHeld.2.2.2.2.2.2.2.2.2.2.2.2.2.2.1)
             have HS15_ := (hb.cell (World.block_lt_of_cell? _ _ (hHeld.2.2.2.2.2.2.2.2.2.2.2.2.2.2.2.1))).trans (hHeld.2.2.2.2.2.2.2.2.2.2.2.2.2.2.2.1)
             have HS16_ := (hb.cell (World.block_lt_of_cell? _ _ (hHeld.2.2.2.2.2.2.2.2.2.2.2.2.2.2.2.2.1))).trans (hHeld.2.2.2.2.2.2.2.2.2.2.2.2.2.2.2.2.1)
             have HS17_ := (hb.cell (World.block_lt_of_cell? _ _ (hHeld.2.2.2.2.2.2.2.2.2.2.2.2.2.2.2.2.2.1))).trans (hHeld.2.2.2.2.2.2.2.2.2.2.2.2.2.2.2.2.2.1)
             have HS18_ := (hb.cell (World.block_lt_of_cell? _ _ (hHeld.2.2.2.2.2.2.2.2.2.2.2.2.2.2.2.2.2.2))).trans (hHeld.2.2.2.2.2.2.2.2.2.2.2.2.2.2.2.2.2.2)
             refine ⟨_, rfl, ?_⟩
             replace HO_3 := am (Kd.R_below (rB HO_3.out) hb)
             replace HO_6 := am (Kd.R_below (rB HO_6.out) hb)
             replace BK701 := am (blk_below (bB BK701.out) hb)
             replace HB := am (below_step (sB HB.out) hb)
             (try clear hb)
             (try clear hb2)
             (try clear hk)
             (try clear hi)
             refine hK.out _ _ ⟨(blk_cell BK701.out 0).trans rfl, (blk_cell BK701.out 1).trans rfl, (blk_cell BK701.out 2).trans rfl, HS3_, HS4_, HS5_, HS6_, HS7_, HS8_, HS9_, HS10_, HS11_, HS12_, HS13_, HS14_, HS15_, HS16_, HS17_, HS18_⟩ (fun hHeld => ?_)
             clear hK K
             refine norm_ (a' := ?_) ?_ ?_
             rotate_left
             ·show Act.put _ (some 79) _ = _
              simp only [Act.put, qa, qb, qc, i64_w, i32_w]
              rfl
             refine pure_ (i := 11) (N := some 85) (v := ?_) (a' := ?_) #[o,o,o,o,o,o,o,o,o,o,o,o,z,z,z,z,z,z,z,z,z,z,z,z] rfl rfl (any_of HT_.out (by kernel_rfl)) (fun _ _ _ h => h) (Or.inl ⟨by rfl, ?_⟩) ?_ ?_
             rotate_left
             ·intro w'
              go_simp
              with_reducible rfl
             rotate_left
             ·simp only [Act.put, qa, qb, qc, i64_w, i32_w]
              rfl
             refine pure_ (i := 12) (N := some 86) (v := ?_) (a' := ?_) #[o,o,o,o,o,o,o,o,o,o,o,o,o,z,z,z,z,z,z,z,z,z,z,z] rfl rfl (any_of HT_.out (by kernel_rfl)) (fun _ _ _ h => h) (Or.inl ⟨by rfl, ?_⟩) ?_ ?_
             rotate_left
             ·intro w'
              go_simp
              with_reducible rfl
             rotate_left
             ·simp only [Act.put, qa, qb, qc, i64_w, i32_w]
              rfl
             refine pure_ (i := 13) (N := some 87) (v := ?_) (a' := ?_) #[o,o,o,o,o,o,o,o,o,o,o,o,o,o,z,z,z,z,z,z,z,z,z,z] rfl rfl (any_of HT_.out (by kernel_rfl)) (fun _ _ _ h => h) (Or.inl ⟨by rfl, ?_⟩) ?_ ?_
             rotate_left
             ·intro w'
              go_simp
              with_reducible rfl
             rotate_left
             ·simp only [Act.put, qa, qb, qc, i64_w, i32_w]
              rfl
             refine pure_ (i := 16) (N := some 90) (v := ?_) (a' := ?_) #[o,o,o,o,o,o,o,o,o,o,o,o,o,o,z,z,o,z,z,z,z,z,z,z] rfl rfl (any_of HT_.out (by kernel_rfl)) (fun _ _ _ h => h) (Or.inl ⟨by rfl, ?_⟩) ?_ ?_
             rotate_left
             ·intro w'
              go_simp
              with_reducible rfl
             rotate_left
             ·simp only [Act.put, qa, qb, qc, i64_w, i32_w]
              rfl
             refine pure_ (i := 17) (N := some 91) (v := ?_) (a' := ?_) #[o,o,o,o,o,o,o,o,o,o,o,o,o,o,z,z,o,o,z,z,z,z,z,z] rfl rfl (any_of HT_.out (by kernel_rfl)) (fun _ _ _ h => h) (Or.inl ⟨by rfl, ?_⟩) ?_ ?_
             rotate_left
             ·intro w'
              go_simp
              with_reducible rfl
             rotate_left
             ·simp only [Act.put, qa, qb, qc, i64_w, i32_w]
              rfl
             refine pure_ (i := 18) (N := some 92) (v := ?_) (a' := ?_) #[o,o,o,o,o,o,o,o,o,o,o,o,o,o,z,z,o,o,o,z,z,z,z,z] rfl rfl (any_of HT_.out (by kernel_rfl)) (fun _ _ _ h => h) (Or.inl ⟨by rfl, ?_⟩) ?_ ?_
             rotate_left
             ·intro w'
              go_simp
              with_reducible rfl
             rotate_left
             ·simp only [Act.put, qa, qb, qc, i64_w, i32_w]
              rfl
             refine pure_ (i := 19) (N := some 93) (v := ?_) (a' := ?_) #[o,o,o,o,o,o,o,o,o,o,o,o,o,o,z,z,o,o,o,o,z,z,z,z] rfl rfl (any_of HT_.out (by kernel_rfl)) (fun _ _ _ h => h) (Or.inl ⟨by rfl, ?_⟩) ?_ ?_
             rotate_left
             ·intro w'
              go_simp
              with_reducible rfl
             rotate_left
             ·simp only [Act.put, qa, qb, qc, i64_w, i32_w]
              rfl
             refine take_ (i := 14) (N := some 88) (v := ?_) (a' := ?_) #[o,o,o,o,o,o,o,o,o,o,o,o,o,o,o,z,o,o,o,o,z,z,z,z] rfl rfl (take_ofW HT_.out HW_.out (by kernel_rfl)) (fun _ _ _ h => h) (Or.inl ⟨by rfl, ?_⟩) hHeld ?_ ?_
             rotate_left
             ·rintro w' ⟨s0, s1, s2, s3, s4, s5, s6, s7, s8, s9, s10, s11, s12, s13, s14, s15, s16, s17, s18⟩
              go_simp
              with_reducible rfl
             rotate_left
             ·simp only [Act.put, qa, qb, qc, i64_w, i32_w]
              rfl
             refine take_ (i := 20) (N := some 94) (v := ?_) (a' := ?_) #[o,o,o,o,o,o,o,o,o,o,o,o,o,o,o,z,o,o,o,o,o,z,z,z] rfl rfl (take_ofW HT_.out HW_.out (by kernel_rfl)) (fun _ _ _ h => h) (Or.inl ⟨by rfl, ?_⟩) hHeld ?_ ?_
             rotate_left
             ·rintro w' ⟨s0, s1, s2, s3, s4, s5, s6, s7, s8, s9, s10, s11, s12, s13, s14, s15, s16, s17, s18⟩
              go_simp
              with_reducible rfl
             rotate_left
             ·simp only [Act.put, qa, qb, qc, i64_w, i32_w]
              rfl
             refine one_ (i := 15) (N := some 89) #[o,o,o,o,o,o,o,o,o,o,o,o,o,o,o,o,o,o,o,o,o,z,z,z] rfl rfl (one_of HT_.out (by kernel_rfl)) (by decide) (fun K hK => ?_)
             refine goes_ Try.func30 (by kernel_rfl) rfl #[.slice (some ad716) t695.length co11, .agg #[.int .i64 t698, .int .i64 t699, .int .i64 t700]] (by rfl) rfl rfl (by (try simp only [List.map_toArray, List.map_cons, List.map_nil]); first | done | rfl | (simp only [List.length_drop, List.length_take]; rfl)) ?_
             with_reducible refine (impl_WhoDecides.calls k2 _ _ t695 t698 t699 t700 t717 _ ?side1 ?side2 A66.out).mono ?_
             (case side1 => exact cB ((Kd.R_reads' HO_3.out).2.2))
             (case side2 => exact (Kd.R_reads' HO_3.out).2.1)
             rintro e w69 ⟨rfl, hb⟩
             have HS3_ := (hb.cell (World.block_lt_of_cell? _ _ (hHeld.2.2.2.1))).trans (hHeld.2.2.2.1)
             have HS4_ := (hb.cell (World.block_lt_of_cell? _ _ (hHeld.2.2.2.2.1))).trans (hHeld.2.2.2.2.1)
             have HS5_ := (hb.cell (World.block_lt_of_cell? _ _ (hHeld.2.2.2.2.2.1))).trans (hHeld.2.2.2.2.2.1)
             have HS6_ := (hb.cell (World.block_lt_of_cell? _ _ (hHeld.2.2.2.2.2.2.1))).trans (hHeld.2.2.2.2.2.2.1)
             have HS7_ := (hb.cell (World.block_lt_of_cell? _ _ (hHeld.2.2.2.2.2.2.2.1))).trans (hHeld.2.2.2.2.2.2.2.1)
             have HS8_ := (hb.cell (World.block_lt_of_cell? _ _ (hHeld.2.2.2.2.2.2.2.2.1))).trans (hHeld.2.2.2.2.2.2.2.2.1)
             have HS9_ := (hb.cell (World.block_lt_of_cell? _ _ (hHeld.2.2.2.2.2.2.2.2.2.1))).trans (hHeld.2.2.2.2.2.2.2.2.2.1)
             have HS10_ := (hb.cell (World.block_lt_of_cell? _ _ (hHeld.2.2.2.2.2.2.2.2.2.2.1))).trans (hHeld.2.2.2.2.2.2.2.2.2.2.1)
             have HS11_ := (hb.cell (World.block_lt_of_cell? _ _ (hHeld.2.2.2.2.2.2.2.2.2.2.2.1))).trans (hHeld.2.2.2.2.2.2.2.2.2.2.2.1)
             have HS12_ := (hb.cell (World.block_lt_of_cell? _ _ (hHeld.2.2.2.2.2.2.2.2.2.2.2.2.1))).trans (hHeld.2.2.2.2.2.2.2.2.2.2.2.2.1)
             have HS13_ := (hb.cell (World.block_lt_of_cell? _ _ (hHeld.2.2.2.2.2.2.2.2.2.2.2.2.2.1))).trans (hHeld.2.2.2.2.2.2.2.2.2.2.2.2.2.1)
             have HS14_ := (hb.cell (World.block_lt_of_cell? _ _ (hHeld.2.2.2.2.2.2.2.2.2.2.2.2.2.2.1))).trans (hHeld.2.2.2.2.2.2.2.2.2.2.2.2.2.2.1)
             have HS15_ := (hb.cell (World.block_lt_of_cell? _ _ (hHeld.2.2.2.2.2.2.2.2.2.2.2.2.2.2.2.1))).trans (hHeld.2.2.2.2.2.2.2.2.2.2.2.2.2.2.2.1)
             have HS16_ := (hb.cell (World.block_lt_of_cell? _ _ (hHeld.2.2.2.2.2.2.2.2.2.2.2.2.2.2.2.2.1))).trans (hHeld.2.2.2.2.2.2.2.2.2.2.2.2.2.2.2.2.1)
             have HS17_ := (hb.cell (World.block_lt_of_cell? _ _ (hHeld.2.2.2.2.2.2.2.2.2.2.2.2.2.2.2.2.2.1))).trans (hHeld.2.2.2.2.2.2.2.2.2.2.2.2.2.2.2.2.2.1)
             have HS18_ := (hb.cell (World.block_lt_of_cell? _ _ (hHeld.2.2.2.2.2.2.2.2.2.2.2.2.2.2.2.2.2.2))).trans (hHeld.2.2.2.2.2.2.2.2.2.2.2.2.2.2.2.2.2.2)
             refine ⟨_, rfl, ?_⟩
             replace HO_3 := am (Kd.R_below (rB HO_3.out) hb)
             replace HO_6 := am (Kd.R_below (rB HO_6.out) hb)
             replace BK701 := am (blk_below (bB BK701.out) hb)
             replace HB := am (below_step (sB HB.out) hb)
             (try clear hb)
             (try clear hb2)
             (try clear hk)
             (try clear hi)
             refine hK.out _ _ ⟨(blk_cell BK701.out 0).trans rfl, (blk_cell BK701.out 1).trans rfl, (blk_cell BK701.out 2).trans rfl, HS3_, HS4_, HS5_, HS6_, HS7_, HS8_, HS9_, HS10_, HS11_, HS12_, HS13_, HS14_, HS15_, HS16_, HS17_, HS18_⟩ (fun hHeld => ?_)
             clear hK K
             refine norm_ (a' := ?_) ?_ ?_
             rotate_left
             ·show Act.put _ (some 89) _ = _
              simp only [Act.put, qa, qb, qc, i64_w, i32_w]
              rfl
             refine pure_ (i := 21) (N := some 95) (v := ?_) (a' := ?_) #[o,o,o,o,o,o,o,o,o,o,o,o,o,o,o,o,o,o,o,o,o,o,z,z] rfl rfl (any_of HT_.out (by kernel_rfl)) (fun _ _ _ h => h) (Or.inl ⟨by rfl, ?_⟩) ?_ ?_
             rotate_left
             ·intro w'
              go_simp
              with_reducible rfl
             rotate_left
             ·simp only [Act.put, qa, qb, qc, i64_w, i32_w]
              rfl
             refine pure_ (i := 22) (N := some 96) (v := ?_) (a' := ?_) #[o,o,o,o,o,o,o,o,o,o,o,o,o,o,o,o,o,o,o,o,o,o,o,z] rfl rfl (any_of HT_.out (by kernel_rfl)) (fun _ _ _ h => h) (Or.inl ⟨by rfl, ?_⟩) ?_ ?_
             rotate_left
             ·intro w'
              go_simp
              with_reducible rfl
             rotate_left
             ·simp only [Act.put, qa, qb, qc, i64_w, i32_w]
              rfl
             refine pure_ (i := 23) (N := some 97) (v := ?_) (a' := ?_) #[o,o,o,o,o,o,o,o,o,o,o,o,o,o,o,o,o,o,o,o,o,o,o,o] rfl rfl (any_of HT_.out (by kernel_rfl)) (fun _ _ _ h => h) (Or.inl ⟨by rfl, ?_⟩) ?_ ?_
             rotate_left
             ·intro w'
              go_simp
              with_reducible rfl
             rotate_left
             ·simp only [Act.put, qa, qb, qc, i64_w, i32_w]
              rfl
             refine done_ (done_of HT_.out (by kernel_rfl)) ?_
             try go_wp2
             go_meet
             case rel => exact ⟨_, ((t717 != ((rd_T37 t695 t702).f0))), (by first | rfl | (simp; done) | (simp [*]; done)), H', ⟨by have := HJ6.out; have := HK2.out; first | omega | exact Nat.le_refl _⟩, ⟨by (with_reducible repeat (first | apply Kd.R_alloc | apply Kd.R_drewN | apply Kd.R_drew)); exact HO_3.out⟩, ⟨bB BK701.out⟩, ⟨sB HB.out⟩⟩
            ·rw [if_neg c65] at H
             have c65b0 : (t715 == ((rd_T37 t695 t702).f4)) = false := beq_eq_false_iff_ne.mpr c65
             have c65b1 : (t715 != ((rd_T37 t695 t702).f4)) = true := bne_iff_ne.mpr c65
             have H' := Aside0.mk H
             clear H
             try go_wp2
             replace HO_3 := am (Kd.R_drew HO_3.out)
             replace HO_6 := am (Kd.R_drew HO_6.out)
             replace BK701 := am (blk_drew BK701.out)
             replace HB := am (below_drew1 HB.out)
             have p716 : 0 ≤ (t702 : Int) := of_decide_eq_true (by first | (with_reducible assumption) | assumption)
             have q716 : t702 < (t695.length : Int) := of_decide_eq_true (by first | (with_reducible assumption) | assumption)
             obtain ⟨ad716, e716, hx716_0, hx716_1, hx716_2, hx716_3, hx716_4, hx716_5, hx716_6, hx716_7⟩ := at_T37 (Kd.R_reads' HO_3.out).2.2 t702 p716 q716
             cases e716
             replace p716 := eq_true p716
             replace q716 := eq_true q716
             refine start_ (n := 24) (S := fun w' => w'.cell? ⟨gb701, 0, none⟩ = some (.int .i64 t698) ∧ w'.cell? ⟨gb701, 1, none⟩ = some (.int .i64 t699) ∧ w'.cell? ⟨gb701, 2, none⟩ = some (.int .i64 t700) ∧ w'.cell? (ad716.add ((t702).toNat * 8)) = some (.int .i64 ((rd_T37 t695 t702).f0)) ∧ w'.cell? ⟨(ad716.add ((t702).toNat * 8)).block, (ad716.add ((t702).toNat * 8)).off + 1, none⟩ = some (.int .i64 ((rd_T37 t695 t702).f1)) ∧ w'.cell? ⟨(ad716.add ((t702).toNat * 8)).block, (ad716.add ((t702).toNat * 8)).off + 2, none⟩ = some (.int .i64 ((rd_T37 t695 t702).f2.f0)) ∧ w'.cell? ⟨(ad716.add ((t702).toNat * 8)).block, (ad716.add ((t702).toNat * 8)).off + 3, none⟩ = some (.int .i64 ((rd_T37 t695 t702).f2.f1)) ∧ w'.cell? ⟨(ad716.add ((t702).toNat * 8)).block, (ad716.add ((t702).toNat * 8)).off + 4, none⟩ = some (.int .i64 ((rd_T37 t695 t702).f3)) ∧ w'.cell? ⟨(ad716.add ((t702).toNat * 8)).block, (ad716.add ((t702).toNat * 8)).off + 5, none⟩ = some (.int .i64 ((rd_T37 t695 t702).f4)) ∧ w'.cell? ⟨(ad716.add ((t702).toNat * 8)).block, (ad716.add ((t702).toNat * 8)).off + 6, none⟩ = some (.int .i64 ((rd_T37 t695 t702).f5.f0)) ∧ w'.cell? ⟨(ad716.add ((t702).toNat * 8)).block, (ad716.add ((t702).toNat * 8)).off + 7, none⟩ = some (.int .i64 ((rd_T37 t695 t702).f5.f1))) (ds := []) #[z,z,z,z,z,z,z,z,z,z,z,z,z,z,z,z,z,z,z,z,z,z,z,z] (by kernel_rfl) rfl rfl ⟨(blk_cell BK701.out 0).trans rfl, (blk_cell BK701.out 1).trans rfl, (blk_cell BK701.out 2).trans rfl, hx716_0, hx716_1, hx716_2, hx716_3, hx716_4, hx716_5, hx716_6, hx716_7⟩ (fun hHeld => ?_); refine with_tabW laws_FnDecided.tab13 laws_FnDecided.bits13 (fun HT_ HW_ => ?_)
             generalize wr.drew = w70 at HO_3 HO_6 BK701 HB hx716_0 hx716_1 hx716_2 hx716_3 hx716_4 hx716_5 hx716_6 hx716_7 hHeld ⊢
             refine pure_ (i := 0) (N := some 74) (v := ?_) (a' := ?_) #[o,z,z,z,z,z,z,z,z,z,z,z,z,z,z,z,z,z,z,z,z,z,z,z] rfl rfl (any_of HT_.out (by kernel_rfl)) (fun _ _ _ h => h) (Or.inl ⟨by rfl, ?_⟩) ?_ ?_
             rotate_left
             ·intro w'
              go_simp
              with_reducible rfl
             rotate_left
             ·simp only [Act.put, qa, qb, qc, i64_w, i32_w]
              rfl
             refine pure_ (i := 1) (N := some 75) (v := ?_) (a' := ?_) #[o,o,z,z,z,z,z,z,z,z,z,z,z,z,z,z,z,z,z,z,z,z,z,z] rfl rfl (any_of HT_.out (by kernel_rfl)) (fun _ _ _ h => h) (Or.inl ⟨by rfl, ?_⟩) ?_ ?_
             rotate_left
             ·intro w'
              go_simp
              with_reducible rfl
             rotate_left
             ·simp only [Act.put, qa, qb, qc, i64_w, i32_w]
              rfl
             refine pure_ (i := 2) (N := some 76) (v := ?_) (a' := ?_) #[o,o,o,z,z,z,z,z,z,z,z,z,z,z,z,z,z,z,z,z,z,z,z,z] rfl rfl (any_of HT_.out (by kernel_rfl)) (fun _ _ _ h => h) (Or.inl ⟨by rfl, ?_⟩) ?_ ?_
             rotate_left
             ·intro w'
              go_simp
              with_reducible rfl
             rotate_left
             ·simp only [Act.put, qa, qb, qc, i64_w, i32_w]
              rfl
             refine pure_ (i := 3) (N := some 77) (v := ?_) (a' := ?_) #[o,o,o,o,z,z,z,z,z,z,z,z,z,z,z,z,z,z,z,z,z,z,z,z] rfl rfl (any_of HT_.out (by kernel_rfl)) (fun _ _ _ h => h) (Or.inl ⟨by rfl, ?_⟩) ?_ ?_
             rotate_left
             ·intro w'
              go_simp
              with_reducible rfl
             rotate_left
             ·simp only [Act.put, qa, qb, qc, i64_w, i32_w]
              rfl
             refine pure_ (i := 6) (N := some 80) (v := ?_) (a' := ?_) #[o,o,o,o,z,z,o,z,z,z,z,z,z,z,z,z,z,z,z,z,z,z,z,z] rfl rfl (any_of HT_.out (by kernel_rfl)) (fun _ _ _ h => h) (Or.inl ⟨by rfl, ?_⟩) ?_ ?_
             rotate_left
             ·intro w'
              go_simp
              with_reducible rfl
             rotate_left
             ·simp only [Act.put, qa, qb, qc, i64_w, i32_w]
              rfl
             refine pure_ (i := 7) (N := some 81) (v := ?_) (a' := ?_) #[o,o,o,o,z,z,o,o,z,z,z,z,z,z,z,z,z,z,z,z,z,z,z,z] rfl rfl (any_of HT_.out (by kernel_rfl)) (fun _ _ _ h => h) (Or.inl ⟨by rfl, ?_⟩) ?_ ?_
             rotate_left
             ·intro w'
              go_simp
              with_reducible rfl
             rotate_left
             ·simp only [Act.put, qa, qb, qc, i64_w, i32_w]
              rfl
             refine pure_ (i := 8) (N := some 82) (v := ?_) (a' := ?_) #[o,o,o,o,z,z,o,o,o,z,z,z,z,z,z,z,z,z,z,z,z,z,z,z] rfl rfl (any_of HT_.out (by kernel_rfl)) (fun _ _ _ h => h) (Or.inl ⟨by rfl, ?_⟩) ?_ ?_
             rotate_left
             ·intro w'
              go_simp
              with_reducible rfl
             rotate_left
             ·simp only [Act.put, qa, qb, qc, i64_w, i32_w]
              rfl
             refine pure_ (i := 9) (N := some 83) (v := ?_) (a' := ?_) #[o,o,o,o,z,z,o,o,o,o,z,z,z,z,z,z,z,z,z,z,z,z,z,z] rfl rfl (any_of HT_.out (by kernel_rfl)) (fun _ _ _ h => h) (Or.inl ⟨by rfl, ?_⟩) ?_ ?_
             rotate_left
             ·intro w'
              go_simp
              with_reducible rfl
             rotate_left
             ·simp only [Act.put, qa, qb, qc, i64_w, i32_w]
              rfl
             refine take_ (i := 4) (N := some 78) (v := ?_) (a' := ?_) #[o,o,o,o,o,z,o,o,o,o,z,z,z,z,z,z,z,z,z,z,z,z,z,z] rfl rfl (take_ofW HT_.out HW_.out (by kernel_rfl)) (fun _ _ _ h => h) (Or.inl ⟨by rfl, ?_⟩) hHeld ?_ ?_
             rotate_left
             ·rintro w' ⟨s0, s1, s2, s3, s4, s5, s6, s7, s8, s9, s10⟩
              go_simp
              with_reducible rfl
             rotate_left
             ·simp only [Act.put, qa, qb, qc, i64_w, i32_w]
              rfl
             refine take_ (i := 10) (N := some 84) (v := ?_) (a' := ?_) #[o,o,o,o,o,z,o,o,o,o,o,z,z,z,z,z,z,z,z,z,z,z,z,z] rfl rfl (take_ofW HT_.out HW_.out (by kernel_rfl)) (fun _ _ _ h => h) (Or.inl ⟨by rfl, ?_⟩) hHeld ?_ ?_
             rotate_left
             ·rintro w' ⟨s0, s1, s2, s3, s4, s5, s6, s7, s8, s9, s10⟩
              go_simp
              with_reducible rfl
             rotate_left
             ·simp only [Act.put, qa, qb, qc, i64_w, i32_w]
              rfl
             refine one_ (i := 5) (N := some 79) #[o,o,o,o,o,o,o,o,o,o,o,z,z,z,z,z,z,z,z,z,z,z,z,z] rfl rfl (one_of HT_.out (by kernel_rfl)) (by decide) (fun K hK => ?_)
             refine goes_ Try.func29 (by kernel_rfl) rfl #[.slice (some ad716) t695.length co11, .agg #[.int .i64 t698, .int .i64 t699, .int .i64 t700]] (by rfl) rfl rfl (by (try simp only [List.map_toArray, List.map_cons, List.map_nil]); first | done | rfl | (simp only [List.length_drop, List.length_take]; rfl)) ?_
             with_reducible refine (impl_ActionFor.calls k2 _ _ t695 t698 t699 t700 t715 _ ?side1 ?side2 A62.out).mono ?_
             (case side1 => exact cB ((Kd.R_reads' HO_3.out).2.2))
             (case side2 => exact (Kd.R_reads' HO_3.out).2.1)
             rintro e w71 ⟨rfl, hb⟩
             have HS3_ := (hb.cell (World.block_lt_of_cell? _ _ (hHeld.2.2.2.1))).trans (hHeld.2.2.2.1)
             have HS4_ := (hb.cell (World.block_lt_of_cell? _ _ (hHeld.2.2.2.2.1))).trans (hHeld.2.2.2.2.1)
             have HS5_ := (hb.cell (World.block_lt_of_cell? _ _ (hHeld.2.2.2.2.2.1))).trans (hHeld.2.2.2.2.2.1)
             have HS6_ := (hb.cell (World.block_lt_of_cell? _ _ (hHeld.2.2.2.2.2.2.1))).trans (hHeld.2.2.2.2.2.2.1)
             have HS7_ := (hb.cell (World.block_lt_of_cell? _ _ (hHeld.2.2.2.2.2.2.2.1))).trans (hHeld.2.2.2.2.2.2.2.1)
             have HS8_ := (hb.cell (World.block_lt_of_cell? _ _ (hHeld.2.2.2.2.2.2.2.2.1))).trans (hHeld.2.2.2.2.2.2.2.2.1)
             have HS9_ := (hb.cell (World.block_lt_of_cell? _ _ (hHeld.2.2.2.2.2.2.2.2.2.1))).trans (hHeld.2.2.2.2.2.2.2.2.2.1)
             have HS10_ := (hb.cell (World.block_lt_of_cell? _ _ (hHeld.2.2.2.2.2.2.2.2.2.2))).trans (hHeld.2.2.2.2.2.2.2.2.2.2)
             refine ⟨_, rfl, ?_⟩
             replace HO_3 := am (Kd.R_below (rB HO_3.out) hb)
             replace HO_6 := am (Kd.R_below (rB HO_6.out) hb)
             replace BK701 := am (blk_below (bB BK701.out) hb)
             replace HB := am (below_step (sB HB.out) hb)
             (try clear hb)
             (try clear hb2)
             (try clear hk)
             (try clear hi)
             refine hK.out _ _ ⟨(blk_cell BK701.out 0).trans rfl, (blk_cell BK701.out 1).trans rfl, (blk_cell BK701.out 2).trans rfl, HS3_, HS4_, HS5_, HS6_, HS7_, HS8_, HS9_, HS10_⟩ (fun hHeld => ?_)
             clear hK K
             refine norm_ (a' := ?_) ?_ ?_
             rotate_left
             ·show Act.put _ (some 79) _ = _
              simp only [Act.put, qa, qb, qc, i64_w, i32_w]
              rfl
             refine pure_ (i := 11) (N := some 85) (v := ?_) (a' := ?_) #[o,o,o,o,o,o,o,o,o,o,o,o,z,z,z,z,z,z,z,z,z,z,z,z] rfl rfl (any_of HT_.out (by kernel_rfl)) (fun _ _ _ h => h) (Or.inl ⟨by rfl, ?_⟩) ?_ ?_
             rotate_left
             ·intro w'
              go_simp
              with_reducible rfl
             rotate_left
             ·simp only [Act.put, qa, qb, qc, i64_w, i32_w]
              rfl
             refine pure_ (i := 12) (N := some 86) (v := ?_) (a' := ?_) #[o,o,o,o,o,o,o,o,o,o,o,o,o,z,z,z,z,z,z,z,z,z,z,z] rfl rfl (any_of HT_.out (by kernel_rfl)) (fun _ _ _ h => h) (Or.inl ⟨by rfl, ?_⟩) ?_ ?_
             rotate_left
             ·intro w'
              go_simp
              with_reducible rfl
             rotate_left
             ·simp only [Act.put, qa, qb, qc, i64_w, i32_w]
              rfl
             refine pure_ (i := 13) (N := some 87) (v := undef) (a' := ?_) #[o,o,o,o,o,o,o,o,o,o,o,o,o,o,z,z,z,z,z,z,z,z,z,z] rfl rfl (any_of HT_.out (by kernel_rfl)) (fun _ _ _ h => h) (Or.inr ⟨by rfl, rfl⟩) ?_ ?_
             rotate_left
             ·simp only [Act.put, qa, qb, qc, i64_w, i32_w]
              rfl
             refine pure_ (i := 14) (N := some 88) (v := undef) (a' := ?_) #[o,o,o,o,o,o,o,o,o,o,o,o,o,o,o,z,z,z,z,z,z,z,z,z] rfl rfl (any_of HT_.out (by kernel_rfl)) (fun _ _ _ h => h) (Or.inr ⟨by rfl, rfl⟩) ?_ ?_
             rotate_left
             ·simp only [Act.put, qa, qb, qc, i64_w, i32_w]
              rfl
             refine pure_ (i := 15) (N := some 89) (v := undef) (a' := ?_) #[o,o,o,o,o,o,o,o,o,o,o,o,o,o,o,o,z,z,z,z,z,z,z,z] rfl rfl (any_of HT_.out (by kernel_rfl)) (fun _ _ _ h => h) (Or.inr ⟨by rfl, rfl⟩) ?_ ?_
             rotate_left
             ·simp only [Act.put, qa, qb, qc, i64_w, i32_w]
              rfl
             refine pure_ (i := 16) (N := some 90) (v := undef) (a' := ?_) #[o,o,o,o,o,o,o,o,o,o,o,o,o,o,o,o,o,z,z,z,z,z,z,z] rfl rfl (any_of HT_.out (by kernel_rfl)) (fun _ _ _ h => h) (Or.inr ⟨by rfl, rfl⟩) ?_ ?_
             rotate_left
             ·simp only [Act.put, qa, qb, qc, i64_w, i32_w]
              rfl
             refine pure_ (i := 17) (N := some 91) (v := undef) (a' := ?_) #[o,o,o,o,o,o,o,o,o,o,o,o,o,o,o,o,o,o,z,z,z,z,z,z] rfl rfl (any_of HT_.out (by kernel_rfl)) (fun _ _ _ h => h) (Or.inr ⟨by rfl, rfl⟩) ?_ ?_
             rotate_left
             ·simp only [Act.put, qa, qb, qc, i64_w, i32_w]
              rfl
             refine pure_ (i := 18) (N := some 92) (v := undef) (a' := ?_) #[o,o,o,o,o,o,o,o,o,o,o,o,o,o,o,o,o,o,o,z,z,z,z,z] rfl rfl (any_of HT_.out (by kernel_rfl)) (fun _ _ _ h => h) (Or.inr ⟨by rfl, rfl⟩) ?_ ?_
             rotate_left
             ·simp only [Act.put, qa, qb, qc, i64_w, i32_w]
              rfl
             refine pure_ (i := 19) (N := some 93) (v := undef) (a' := ?_) #[o,o,o,o,o,o,o,o,o,o,o,o,o,o,o,o,o,o,o,o,z,z,z,z] rfl rfl (any_of HT_.out (by kernel_rfl)) (fun _ _ _ h => h) (Or.inr ⟨by rfl, rfl⟩) ?_ ?_
             rotate_left
             ·simp only [Act.put, qa, qb, qc, i64_w, i32_w]
              rfl
             refine pure_ (i := 20) (N := some 94) (v := undef) (a' := ?_) #[o,o,o,o,o,o,o,o,o,o,o,o,o,o,o,o,o,o,o,o,o,z,z,z] rfl rfl (any_of HT_.out (by kernel_rfl)) (fun _ _ _ h => h) (Or.inr ⟨by rfl, rfl⟩) ?_ ?_
             rotate_left
             ·simp only [Act.put, qa, qb, qc, i64_w, i32_w]
              rfl
             refine pure_ (i := 21) (N := some 95) (v := undef) (a' := ?_) #[o,o,o,o,o,o,o,o,o,o,o,o,o,o,o,o,o,o,o,o,o,o,z,z] rfl rfl (any_of HT_.out (by kernel_rfl)) (fun _ _ _ h => h) (Or.inr ⟨by rfl, rfl⟩) ?_ ?_
             rotate_left
             ·simp only [Act.put, qa, qb, qc, i64_w, i32_w]
              rfl
             refine pure_ (i := 22) (N := some 96) (v := ?_) (a' := ?_) #[o,o,o,o,o,o,o,o,o,o,o,o,o,o,o,o,o,o,o,o,o,o,o,z] rfl rfl (any_of HT_.out (by kernel_rfl)) (fun _ _ _ h => h) (Or.inl ⟨by rfl, ?_⟩) ?_ ?_
             rotate_left
             ·intro w'
              go_simp
              with_reducible rfl
             rotate_left
             ·simp only [Act.put, qa, qb, qc, i64_w, i32_w]
              rfl
             refine pure_ (i := 23) (N := some 97) (v := ?_) (a' := ?_) #[o,o,o,o,o,o,o,o,o,o,o,o,o,o,o,o,o,o,o,o,o,o,o,o] rfl rfl (any_of HT_.out (by kernel_rfl)) (fun _ _ _ h => h) (Or.inl ⟨by rfl, ?_⟩) ?_ ?_
             rotate_left
             ·intro w'
              go_simp
              with_reducible rfl
             rotate_left
             ·simp only [Act.put, qa, qb, qc, i64_w, i32_w]
              rfl
             refine done_ (done_of HT_.out (by kernel_rfl)) ?_
             try go_wp2
             go_meet
             case rel => exact ⟨_, (true), (by first | rfl | (simp; done) | (simp [*]; done)), H', ⟨by have := HJ6.out; have := HK2.out; first | omega | exact Nat.le_refl _⟩, ⟨by (with_reducible repeat (first | apply Kd.R_alloc | apply Kd.R_drewN | apply Kd.R_drew)); exact HO_3.out⟩, ⟨bB BK701.out⟩, ⟨sB HB.out⟩⟩
           ·rw [if_neg c64] at H
            exact absurd H (by simp)
          ·rw [if_neg c63] at H
           exact absurd H (by simp)
         ·rw [if_neg c61] at H
          have c61b0 : decide (0 ≤ t702) = false := decide_eq_false c61
          clear c61
          (first | rw [c61b0] | (simp only [i64_w, i32_w]; rw [c61b0]) | skip)
          have H' := Aside0.mk H
          clear H
          try go_wp2
          replace HO_3 := am (Kd.R_drew HO_3.out)
          replace HO_6 := am (Kd.R_drew HO_6.out)
          replace BK701 := am (blk_drew BK701.out)
          replace HB := am (below_drew1 HB.out)
          refine start_ (n := 24) (S := fun w' => True) (ds := []) #[z,z,z,z,z,z,z,z,z,z,z,z,z,z,z,z,z,z,z,z,z,z,z,z] (by kernel_rfl) rfl rfl trivial (fun hHeld => ?_); refine with_tabW laws_FnDecided.tab13 laws_FnDecided.bits13 (fun HT_ HW_ => ?_)
          generalize wr.drew = w72 at HO_3 HO_6 BK701 HB hHeld ⊢
          refine pure_ (i := 0) (N := some 74) (v := ?_) (a' := ?_) #[o,z,z,z,z,z,z,z,z,z,z,z,z,z,z,z,z,z,z,z,z,z,z,z] rfl rfl (any_of HT_.out (by kernel_rfl)) (fun _ _ _ h => h) (Or.inl ⟨by rfl, ?_⟩) ?_ ?_
          rotate_left
          ·intro w'
           go_simp
           with_reducible rfl
          rotate_left
          ·simp only [Act.put, qa, qb, qc, i64_w, i32_w]
           rfl
          refine pure_ (i := 1) (N := some 75) (v := ?_) (a' := ?_) #[o,o,z,z,z,z,z,z,z,z,z,z,z,z,z,z,z,z,z,z,z,z,z,z] rfl rfl (any_of HT_.out (by kernel_rfl)) (fun _ _ _ h => h) (Or.inl ⟨by rfl, ?_⟩) ?_ ?_
          rotate_left
          ·intro w'
           go_simp
           with_reducible rfl
          rotate_left
          ·simp only [Act.put, qa, qb, qc, i64_w, i32_w]
           rfl
          refine pure_ (i := 2) (N := some 76) (v := ?_) (a' := ?_) #[o,o,o,z,z,z,z,z,z,z,z,z,z,z,z,z,z,z,z,z,z,z,z,z] rfl rfl (any_of HT_.out (by kernel_rfl)) (fun _ _ _ h => h) (Or.inl ⟨by rfl, ?_⟩) ?_ ?_
          rotate_left
          ·intro w'
           go_simp
           with_reducible rfl
          rotate_left
          ·simp only [Act.put, qa, qb, qc, i64_w, i32_w]
           rfl
          refine pure_ (i := 3) (N := some 77) (v := undef) (a' := ?_) #[o,o,o,o,z,z,z,z,z,z,z,z,z,z,z,z,z,z,z,z,z,z,z,z] rfl rfl (any_of HT_.out (by kernel_rfl)) (fun _ _ _ h => h) (Or.inr ⟨by rfl, rfl⟩) ?_ ?_
          rotate_left
          ·simp only [Act.put, qa, qb, qc, i64_w, i32_w]
           rfl
          refine pure_ (i := 4) (N := some 78) (v := undef) (a' := ?_) #[o,o,o,o,o,z,z,z,z,z,z,z,z,z,z,z,z,z,z,z,z,z,z,z] rfl rfl (any_of HT_.out (by kernel_rfl)) (fun _ _ _ h => h) (Or.inr ⟨by rfl, rfl⟩) ?_ ?_
          rotate_left
          ·simp only [Act.put, qa, qb, qc, i64_w, i32_w]
           rfl
          refine pure_ (i := 5) (N := some 79) (v := undef) (a' := ?_) #[o,o,o,o,o,o,z,z,z,z,z,z,z,z,z,z,z,z,z,z,z,z,z,z] rfl rfl (any_of HT_.out (by kernel_rfl)) (fun _ _ _ h => h) (Or.inr ⟨by rfl, rfl⟩) ?_ ?_
          rotate_left
          ·simp only [Act.put, qa, qb, qc, i64_w, i32_w]
           rfl
          refine pure_ (i := 6) (N := some 80) (v := undef) (a' := ?_) #[o,o,o,o,o,o,o,z,z,z,z,z,z,z,z,z,z,z,z,z,z,z,z,z] rfl rfl (any_of HT_.out (by kernel_rfl)) (fun _ _ _ h => h) (Or.inr ⟨by rfl, rfl⟩) ?_ ?_
          rotate_left
          ·simp only [Act.put, qa, qb, qc, i64_w, i32_w]
           rfl
          refine pure_ (i := 7) (N := some 81) (v := undef) (a' := ?_) #[o,o,o,o,o,o,o,o,z,z,z,z,z,z,z,z,z,z,z,z,z,z,z,z] rfl rfl (any_of HT_.out (by kernel_rfl)) (fun _ _ _ h => h) (Or.inr ⟨by rfl, rfl⟩) ?_ ?_
          rotate_left
          ·simp only [Act.put, qa, qb, qc, i64_w, i32_w]
           rfl
          refine pure_ (i := 8) (N := some 82) (v := undef) (a' := ?_) #[o,o,o,o,o,o,o,o,o,z,z,z,z,z,z,z,z,z,z,z,z,z,z,z] rfl rfl (any_of HT_.out (by kernel_rfl)) (fun _ _ _ h => h) (Or.inr ⟨by rfl, rfl⟩) ?_ ?_
          rotate_left
          ·simp only [Act.put, qa, qb, qc, i64_w, i32_w]
           rfl
          refine pure_ (i := 9) (N := some 83) (v := undef) (a' := ?_) #[o,o,o,o,o,o,o,o,o,o,z,z,z,z,z,z,z,z,z,z,z,z,z,z] rfl rfl (any_of HT_.out (by kernel_rfl)) (fun _ _ _ h => h) (Or.inr ⟨by rfl, rfl⟩) ?_ ?_
          rotate_left
          ·simp only [Act.put, qa, qb, qc, i64_w, i32_w]
           rfl
          refine pure_ (i := 10) (N := some 84) (v := undef) (a' := ?_) #[o,o,o,o,o,o,o,o,o,o,o,z,z,z,z,z,z,z,z,z,z,z,z,z] rfl rfl (any_of HT_.out (by kernel_rfl)) (fun _ _ _ h => h) (Or.inr ⟨by rfl, rfl⟩) ?_ ?_
          rotate_left
          ·simp only [Act.put, qa, qb, qc, i64_w, i32_w]
           rfl
          refine pure_ (i := 11) (N := some 85) (v := undef) (a' := ?_) #[o,o,o,o,o,o,o,o,o,o,o,o,z,z,z,z,z,z,z,z,z,z,z,z] rfl rfl (any_of HT_.out (by kernel_rfl)) (fun _ _ _ h => h) (Or.inr ⟨by rfl, rfl⟩) ?_ ?_
          rotate_left
          ·simp only [Act.put, qa, qb, qc, i64_w, i32_w]
           rfl
          refine pure_ (i := 12) (N := some 86) (v := undef) (a' := ?_) #[o,o,o,o,o,o,o,o,o,o,o,o,o,z,z,z,z,z,z,z,z,z,z,z] rfl rfl (any_of HT_.out (by kernel_rfl)) (fun _ _ _ h => h) (Or.inr ⟨by rfl, rfl⟩) ?_ ?_
          rotate_left
          ·simp only [Act.put, qa, qb, qc, i64_w, i32_w]
           rfl
          refine pure_ (i := 13) (N := some 87) (v := undef) (a' := ?_) #[o,o,o,o,o,o,o,o,o,o,o,o,o,o,z,z,z,z,z,z,z,z,z,z] rfl rfl (any_of HT_.out (by kernel_rfl)) (fun _ _ _ h => h) (Or.inr ⟨by rfl, rfl⟩) ?_ ?_
          rotate_left
          ·simp only [Act.put, qa, qb, qc, i64_w, i32_w]
           rfl
          refine pure_ (i := 14) (N := some 88) (v := undef) (a' := ?_) #[o,o,o,o,o,o,o,o,o,o,o,o,o,o,o,z,z,z,z,z,z,z,z,z] rfl rfl (any_of HT_.out (by kernel_rfl)) (fun _ _ _ h => h) (Or.inr ⟨by rfl, rfl⟩) ?_ ?_
          rotate_left
          ·simp only [Act.put, qa, qb, qc, i64_w, i32_w]
           rfl
          refine pure_ (i := 15) (N := some 89) (v := undef) (a' := ?_) #[o,o,o,o,o,o,o,o,o,o,o,o,o,o,o,o,z,z,z,z,z,z,z,z] rfl rfl (any_of HT_.out (by kernel_rfl)) (fun _ _ _ h => h) (Or.inr ⟨by rfl, rfl⟩) ?_ ?_
          rotate_left
          ·simp only [Act.put, qa, qb, qc, i64_w, i32_w]
           rfl
          refine pure_ (i := 16) (N := some 90) (v := undef) (a' := ?_) #[o,o,o,o,o,o,o,o,o,o,o,o,o,o,o,o,o,z,z,z,z,z,z,z] rfl rfl (any_of HT_.out (by kernel_rfl)) (fun _ _ _ h => h) (Or.inr ⟨by rfl, rfl⟩) ?_ ?_
          rotate_left
          ·simp only [Act.put, qa, qb, qc, i64_w, i32_w]
           rfl
          refine pure_ (i := 17) (N := some 91) (v := undef) (a' := ?_) #[o,o,o,o,o,o,o,o,o,o,o,o,o,o,o,o,o,o,z,z,z,z,z,z] rfl rfl (any_of HT_.out (by kernel_rfl)) (fun _ _ _ h => h) (Or.inr ⟨by rfl, rfl⟩) ?_ ?_
          rotate_left
          ·simp only [Act.put, qa, qb, qc, i64_w, i32_w]
           rfl
          refine pure_ (i := 18) (N := some 92) (v := undef) (a' := ?_) #[o,o,o,o,o,o,o,o,o,o,o,o,o,o,o,o,o,o,o,z,z,z,z,z] rfl rfl (any_of HT_.out (by kernel_rfl)) (fun _ _ _ h => h) (Or.inr ⟨by rfl, rfl⟩) ?_ ?_
          rotate_left
          ·simp only [Act.put, qa, qb, qc, i64_w, i32_w]
           rfl
          refine pure_ (i := 19) (N := some 93) (v := undef) (a' := ?_) #[o,o,o,o,o,o,o,o,o,o,o,o,o,o,o,o,o,o,o,o,z,z,z,z] rfl rfl (any_of HT_.out (by kernel_rfl)) (fun _ _ _ h => h) (Or.inr ⟨by rfl, rfl⟩) ?_ ?_
          rotate_left
          ·simp only [Act.put, qa, qb, qc, i64_w, i32_w]
           rfl
          refine pure_ (i := 20) (N := some 94) (v := undef) (a' := ?_) #[o,o,o,o,o,o,o,o,o,o,o,o,o,o,o,o,o,o,o,o,o,z,z,z] rfl rfl (any_of HT_.out (by kernel_rfl)) (fun _ _ _ h => h) (Or.inr ⟨by rfl, rfl⟩) ?_ ?_
          rotate_left
          ·simp only [Act.put, qa, qb, qc, i64_w, i32_w]
           rfl
          refine pure_ (i := 21) (N := some 95) (v := undef) (a' := ?_) #[o,o,o,o,o,o,o,o,o,o,o,o,o,o,o,o,o,o,o,o,o,o,z,z] rfl rfl (any_of HT_.out (by kernel_rfl)) (fun _ _ _ h => h) (Or.inr ⟨by rfl, rfl⟩) ?_ ?_
          rotate_left
          ·simp only [Act.put, qa, qb, qc, i64_w, i32_w]
           rfl
          refine pure_ (i := 22) (N := some 96) (v := undef) (a' := ?_) #[o,o,o,o,o,o,o,o,o,o,o,o,o,o,o,o,o,o,o,o,o,o,o,z] rfl rfl (any_of HT_.out (by kernel_rfl)) (fun _ _ _ h => h) (Or.inr ⟨by rfl, rfl⟩) ?_ ?_
          rotate_left
          ·simp only [Act.put, qa, qb, qc, i64_w, i32_w]
           rfl
          refine pure_ (i := 23) (N := some 97) (v := ?_) (a' := ?_) #[o,o,o,o,o,o,o,o,o,o,o,o,o,o,o,o,o,o,o,o,o,o,o,o] rfl rfl (any_of HT_.out (by kernel_rfl)) (fun _ _ _ h => h) (Or.inl ⟨by rfl, ?_⟩) ?_ ?_
          rotate_left
          ·intro w'
           go_simp
           with_reducible rfl
          rotate_left
          ·simp only [Act.put, qa, qb, qc, i64_w, i32_w]
           rfl
          refine done_ (done_of HT_.out (by kernel_rfl)) ?_
          try go_wp2
          go_meet
          case rel => exact ⟨_, (false), (by first | rfl | (simp; done) | (simp [*]; done)), H', ⟨by have := HJ6.out; have := HK2.out; first | omega | exact Nat.le_refl _⟩, ⟨by (with_reducible repeat (first | apply Kd.R_alloc | apply Kd.R_drewN | apply Kd.R_drew)); exact HO_3.out⟩, ⟨bB BK701.out⟩, ⟨sB HB.out⟩⟩
        case rest =>
         clear HC59
         try clear c2
         try clear p2
         try clear c3
         try clear c6
         try clear p7
         try clear q7
         try clear hx7
         try clear c29
         try clear c30
         try clear c61
         try clear c61b0
         try clear c63
         try clear c64
         try clear c65
         try clear c65b0
         try clear c65b1
         try clear p71
         try clear q71
         try clear hx71
         try clear hx716_0
         try clear hx716_1
         try clear hx716_2
         try clear hx716_3
         try clear hx716_4
         try clear hx716_5
         try clear hx716_6
         try clear hx716_7
         try clear p716
         try clear q716
         obtain ⟨kq, x97_58, rfl, HA, HJ58, HO_3, BK701, HB⟩ := hcut
         cases kq with
         | zero => exact absurd HA.out (by simp [laws_FnDecided.j2])
         | succ kj58 =>
          have H := HA.out
          clear HA
          simp only [laws_FnDecided.j2] at H
          by_cases c73 : x97_58 = true
          ·subst c73
           have H1 : (some false) = some r := by rw [if_pos rfl] at H; exact H
           clear H
           have H := H1
           clear H1
           exact absurd ((Option.some.inj H).trans HRT.out) (by decide)
          ·replace c73 := Bool.eq_false_iff.mpr c73
           subst c73
           have H1 : ((impl_SortRules.f kj58 t695).bind fun t719 => (laws_FnDecided.l1 kj58 t695 t702 t719 1 t698 t699 t700)) = some r := by rw [if_neg (show ¬ (false = true) by decide)] at H; exact H
           clear H
           have H := H1
           clear H1
           replace H := Option.bind_eq_some_iff.mp H
           obtain ⟨t719, A740, H⟩ := H
           replace H : (laws_FnDecided.l1 kj58 t695 t702 t719 1 t698 t699 t700) = some r := H
           have A74 := Aside0.mk A740
           clear A740
           have H' := Aside0.mk H
           clear H
           go_wp2_with (first | ((with_reducible refine gate_callee (f := 16) rfl ?_); refine goesL_ (some 99) rfl rfl Try.func16 (by kernel_rfl) rfl #[.slice Ao11 t695.length co11] rfl (by (try simp only [List.map_toArray, List.map_cons, List.map_nil]); first | done | rfl | (simp only [List.length_drop, List.length_take]; rfl)) ?_; (with_reducible refine (impl_SortRules.calls kj58 _ _ t695 t719 _ ?side1 ?side2 A74.out).mono ?_); (case side1 => exact cB ((Kd.R_reads' HO_3.out).2.2)); (case side2 => exact (Kd.R_reads' HO_3.out).2.1); rintro e w75 ⟨v720, rfl, ho0, hb⟩; refine ⟨_, rfl, ?_⟩; have n0_ := am (Kd.R_elder' (rB HO_3.out) (Kd.R_base ho0) hb); have n1_ := am (Kd.R_lower (Kd.R_new' ho0 (Kd.R_lt (rB HO_3.out))) (below_size (sB HB.out))); have n2_ := am (blk_below (bB BK701.out) hb); have n3_ := am (below_step (sB HB.out) hb); clear HO_3; clear BK701; clear HB; have HO_3 := n0_; have HO721 := n1_; have BK701 := n2_; have HB := n3_; clear n0_ n1_ n2_ n3_; (try clear hb); (try clear hb2); (try clear hk); (try clear hi); (try clear ho0)))
           go_loopg [9] kj58 (fun kq v9 w' => ∃ (x9_4 : Int), v9 = .int .i64 x9_4 ∧ Aside0 (laws_FnDecided.l1 kq t695 t702 t719 x9_4 t698 t699 t700 = some r) ∧ Aside0 (kq ≤ kj58) ∧ Aside0 (Kd.R k37 37 w' w.heap.size (fun k_ => some k_ ≠ (v720 : Value).ownBlock) (.slice Ao11 t695.length co11) t695) ∧ Aside0 (Kd.R k37 37 w' w.heap.size (fun k_ => some k_ ≠ ((.slice Ao11 t695.length co11) : Value).ownBlock) v720 t719) ∧ Aside0 (w'.heap[gb701]? = some (.cells #[.int .i64 t698, .int .i64 t699, .int .i64 t700] 28 (0, 0))) ∧ Aside0 (Below w.heap.size w w'))
           case atStart => exact ⟨(1), (by first | rfl | (simp; done) | (simp [*]; done)), H', ⟨Nat.le_refl _⟩, ⟨by (with_reducible repeat (first | apply Kd.R_alloc | apply Kd.R_drewN | apply Kd.R_drew)); exact Kd.R_mono HO_3.out (fun _ hk => hk.2)⟩, ⟨by (with_reducible repeat (first | apply Kd.R_alloc | apply Kd.R_drewN | apply Kd.R_drew)); exact Kd.R_mono HO721.out (fun _ hk => hk.2)⟩, ⟨bB BK701.out⟩, ⟨sB HB.out⟩⟩
           case round =>
            clear H'
            try clear c1
            try clear c2
            try clear p2
            try clear c3
            try clear c6
            try clear c7
            try clear p7
            try clear q7
            try clear hx7
            try clear c16
            try clear c29
            try clear c30
            try clear c61
            try clear c61b0
            try clear c63
            try clear c64
            try clear c65
            try clear c65b0
            try clear c65b1
            try clear p71
            try clear q71
            try clear hx71
            try clear c73
            try clear hx716_0
            try clear hx716_1
            try clear hx716_2
            try clear hx716_3
            try clear hx716_4
            try clear hx716_5
            try clear hx716_6
            try clear hx716_7
            try clear p2
            try clear p7
            try clear p71
            try clear p716
            try clear q7
            try clear q71
            try clear q716
            obtain ⟨x9_4, rfl, HA, HK4, HO_3, HO_8, BK701, HB⟩ := hrel
            cases gk with
            | zero => exact absurd HA.out (by simp [laws_FnDecided.l1])
            | succ k4 =>
             have H := HA.out
             clear HA
             simp only [laws_FnDecided.l1] at H
             by_cases c76 : x9_4 < (t719.length : Int)
             ·rw [if_pos c76] at H
              have c76b0 : decide (x9_4 < (t719.length : Int)) = true := decide_eq_true c76
              clear c76
              by_cases c77 : 0 ≤ x9_4
              ·rw [if_pos c77] at H
               have c77b0 : decide (0 ≤ x9_4) = true := decide_eq_true c77
               clear c77
               obtain ⟨ji78, hji78⟩ : ∃ j_ : Int, (wrap64 (x9_4 - 1)) = j_ := ⟨_, rfl⟩
               replace H : (if 0 ≤ (ji78) then (if (ji78) < (t719.length : Int) then ((impl_IsBefore.f k4 ((rd_T37 t719 x9_4).f0) ((rd_T37 t719 x9_4).f1) ((rd_T37 t719 x9_4).f2.f0) ((rd_T37 t719 x9_4).f2.f1) ((rd_T37 t719 x9_4).f3) ((rd_T37 t719 x9_4).f4) ((rd_T37 t719 x9_4).f5.f0) ((rd_T37 t719 x9_4).f5.f1) ((rd_T37 t719 (ji78)).f0) ((rd_T37 t719 (ji78)).f1) ((rd_T37 t719 (ji78)).f2.f0) ((rd_T37 t719 (ji78)).f2.f1) ((rd_T37 t719 (ji78)).f3) ((rd_T37 t719 (ji78)).f4) ((rd_T37 t719 (ji78)).f5.f0) ((rd_T37 t719 (ji78)).f5.f1)).bind fun t724 => (if t724 = true then (some false) else (laws_FnDecided.l1 k4 t695 t702 t719 (wrap64 (x9_4 + 1)) t698 t699 t700))) else (none)) else (none)) = some r := by first | (rw [hji78] at H; exact H) | (simp only [hji78] at H ⊢; exact H)
               have hji78w : (IntKind.i64.wrap (x9_4 - 1)) = ji78 := (i64_w _).trans hji78
               by_cases c79 : 0 ≤ (ji78)
               ·rw [if_pos c79] at H
                have c79b0 : decide (0 ≤ (ji78)) = true := decide_eq_true c79
                clear c79
                by_cases c80 : (ji78) < (t719.length : Int)
                ·rw [if_pos c80] at H
                 have c80b0 : decide ((ji78) < (t719.length : Int)) = true := decide_eq_true c80
                 clear c80
                 replace H := Option.bind_eq_some_iff.mp H
                 obtain ⟨t724, A810, H⟩ := H
                 replace H : (if t724 = true then (some false) else (laws_FnDecided.l1 k4 t695 t702 t719 (wrap64 (x9_4 + 1)) t698 t699 t700)) = some r := H
                 have A81 := Aside0.mk A810
                 clear A810
                 by_cases c82 : t724 = true
                 ·subst c82
                  have H1 : (some false) = some r := by rw [if_pos rfl] at H; exact H
                  clear H
                  have H := H1
                  clear H1
                  exact absurd ((Option.some.inj H).trans HRT.out) (by decide)
                 ·replace c82 := Bool.eq_false_iff.mpr c82
                  subst c82
                  have H1 : (laws_FnDecided.l1 k4 t695 t702 t719 (wrap64 (x9_4 + 1)) t698 t699 t700) = some r := by rw [if_neg (show ¬ (false = true) by decide)] at H; exact H
                  clear H
                  have H := H1
                  clear H1
                  have H' := Aside0.mk H
                  clear H
                  obtain ⟨Ao83, co83, eo83⟩ := Kd.R_slice HO_8.out
                  subst eo83
                  try go_wp2
                  replace HO_3 := am (Kd.R_drew HO_3.out)
                  replace HO_8 := am (Kd.R_drew HO_8.out)
                  replace BK701 := am (blk_drew BK701.out)
                  replace HB := am (below_drew1 HB.out)
                  have p722 : 0 ≤ (x9_4 : Int) := of_decide_eq_true (by first | (with_reducible assumption) | assumption)
                  have q722 : x9_4 < (t719.length : Int) := of_decide_eq_true (by first | (with_reducible assumption) | assumption)
                  obtain ⟨ad722, e722, hx722_0, hx722_1, hx722_2, hx722_3, hx722_4, hx722_5, hx722_6, hx722_7⟩ := at_T37 (Kd.R_reads' HO_8.out).2.2 x9_4 p722 q722
                  cases e722
                  replace p722 := eq_true p722
                  replace q722 := eq_true q722
                  have p723 : 0 ≤ ((ji78) : Int) := of_decide_eq_true (by first | (with_reducible assumption) | assumption)
                  have q723 : (ji78) < (t719.length : Int) := of_decide_eq_true (by first | (with_reducible assumption) | assumption)
                  obtain ⟨ad723, e723, hx723_0, hx723_1, hx723_2, hx723_3, hx723_4, hx723_5, hx723_6, hx723_7⟩ := at_T37 (Kd.R_reads' HO_8.out).2.2 (ji78) p723 q723
                  obtain rfl : ad722 = ad723 := (by injection e723)
                  replace p723 := eq_true p723
                  replace q723 := eq_true q723
                  refine start_ (n := 10) (S := fun w' => w'.cell? (ad722.add ((x9_4).toNat * 8)) = some (.int .i64 ((rd_T37 t719 x9_4).f0)) ∧ w'.cell? ⟨(ad722.add ((x9_4).toNat * 8)).block, (ad722.add ((x9_4).toNat * 8)).off + 1, none⟩ = some (.int .i64 ((rd_T37 t719 x9_4).f1)) ∧ w'.cell? ⟨(ad722.add ((x9_4).toNat * 8)).block, (ad722.add ((x9_4).toNat * 8)).off + 2, none⟩ = some (.int .i64 ((rd_T37 t719 x9_4).f2.f0)) ∧ w'.cell? ⟨(ad722.add ((x9_4).toNat * 8)).block, (ad722.add ((x9_4).toNat * 8)).off + 3, none⟩ = some (.int .i64 ((rd_T37 t719 x9_4).f2.f1)) ∧ w'.cell? ⟨(ad722.add ((x9_4).toNat * 8)).block, (ad722.add ((x9_4).toNat * 8)).off + 4, none⟩ = some (.int .i64 ((rd_T37 t719 x9_4).f3)) ∧ w'.cell? ⟨(ad722.add ((x9_4).toNat * 8)).block, (ad722.add ((x9_4).toNat * 8)).off + 5, none⟩ = some (.int .i64 ((rd_T37 t719 x9_4).f4)) ∧ w'.cell? ⟨(ad722.add ((x9_4).toNat * 8)).block, (ad722.add ((x9_4).toNat * 8)).off + 6, none⟩ = some (.int .i64 ((rd_T37 t719 x9_4).f5.f0)) ∧ w'.cell? ⟨(ad722.add ((x9_4).toNat * 8)).block, (ad722.add ((x9_4).toNat * 8)).off + 7, none⟩ = some (.int .i64 ((rd_T37 t719 x9_4).f5.f1)) ∧ w'.cell? (ad722.add (((ji78)).toNat * 8)) = some (.int .i64 ((rd_T37 t719 (ji78)).f0)) ∧ w'.cell? ⟨(ad722.add (((ji78)).toNat * 8)).block, (ad722.add (((ji78)).toNat * 8)).off + 1, none⟩ = some (.int .i64 ((rd_T37 t719 (ji78)).f1)) ∧ w'.cell? ⟨(ad722.add (((ji78)).toNat * 8)).block, (ad722.add (((ji78)).toNat * 8)).off + 2, none⟩ = some (.int .i64 ((rd_T37 t719 (ji78)).f2.f0)) ∧ w'.cell? ⟨(ad722.add (((ji78)).toNat * 8)).block, (ad722.add (((ji78)).toNat * 8)).off + 3, none⟩ = some (.int .i64 ((rd_T37 t719 (ji78)).f2.f1)) ∧ w'.cell? ⟨(ad722.add (((ji78)).toNat * 8)).block, (ad722.add (((ji78)).toNat * 8)).off + 4, none⟩ = some (.int .i64 ((rd_T37 t719 (ji78)).f3)) ∧ w'.cell? ⟨(ad722.add (((ji78)).toNat * 8)).block, (ad722.add (((ji78)).toNat * 8)).off + 5, none⟩ = some (.int .i64 ((rd_T37 t719 (ji78)).f4)) ∧ w'.cell? ⟨(ad722.add (((ji78)).toNat * 8)).block, (ad722.add (((ji78)).toNat * 8)).off + 6, none⟩ = some (.int .i64 ((rd_T37 t719 (ji78)).f5.f0)) ∧ w'.cell? ⟨(ad722.add (((ji78)).toNat * 8)).block, (ad722.add (((ji78)).toNat * 8)).off + 7, none⟩ = some (.int .i64 ((rd_T37 t719 (ji78)).f5.f1))) (ds := []) #[z,z,z,z,z,z,z,z,z,z] (by kernel_rfl) rfl rfl ⟨hx722_0, hx722_1, hx722_2, hx722_3, hx722_4, hx722_5, hx722_6, hx722_7, hx723_0, hx723_1, hx723_2, hx723_3, hx723_4, hx723_5, hx723_6, hx723_7⟩ (fun hHeld => ?_); refine with_tabW laws_FnDecided.tab19 laws_FnDecided.bits19 (fun HT_ HW_ => ?_)
                  generalize wr.drew = w84 at HO_3 HO_8 BK701 HB hx722_0 hx722_1 hx722_2 hx722_3 hx722_4 hx722_5 hx722_6 hx722_7 hx723_0 hx723_1 hx723_2 hx723_3 hx723_4 hx723_5 hx723_6 hx723_7 hHeld ⊢
                  refine pure_ (i := 0) (N := some 106) (v := ?_) (a' := ?_) #[o,z,z,z,z,z,z,z,z,z] rfl rfl (any_of HT_.out (by kernel_rfl)) (fun _ _ _ h => h) (Or.inl ⟨by rfl, ?_⟩) ?_ ?_
                  rotate_left
                  ·intro w'
                   go_simp
                   with_reducible rfl
                  rotate_left
                  ·simp only [Act.put, qa, qb, qc, i64_w, i32_w]
                   rfl
                  refine pure_ (i := 1) (N := some 107) (v := ?_) (a' := ?_) #[o,o,z,z,z,z,z,z,z,z] rfl rfl (any_of HT_.out (by kernel_rfl)) (fun _ _ _ h => h) (Or.inl ⟨by rfl, ?_⟩) ?_ ?_
                  rotate_left
                  ·intro w'
                   go_simp
                   with_reducible rfl
                  rotate_left
                  ·simp only [Act.put, qa, qb, qc, i64_w, i32_w]
                   rfl
                  refine pure_ (i := 2) (N := some 108) (v := ?_) (a' := ?_) #[o,o,o,z,z,z,z,z,z,z] rfl rfl (any_of HT_.out (by kernel_rfl)) (fun _ _ _ h => h) (Or.inl ⟨by rfl, ?_⟩) ?_ ?_
                  rotate_left
                  ·intro w'
                   go_simp
                   with_reducible rfl
                  rotate_left
                  ·simp only [Act.put, qa, qb, qc, i64_w, i32_w]
                   rfl
                  refine pure_ (i := 4) (N := some 110) (v := ?_) (a' := ?_) #[o,o,o,z,o,z,z,z,z,z] rfl rfl (any_of HT_.out (by kernel_rfl)) (fun _ _ _ h => h) (Or.inl ⟨by rfl, ?_⟩) ?_ ?_
                  rotate_left
                  ·intro w'
                   go_simp
                   with_reducible rfl
                  rotate_left
                  ·simp only [Act.put, qa, qb, qc, i64_w, i32_w]
                   rfl
                  refine pure_ (i := 5) (N := some 111) (v := ?_) (a' := ?_) #[o,o,o,z,o,o,z,z,z,z] rfl rfl (any_of HT_.out (by kernel_rfl)) (fun _ _ _ h => h) (Or.inl ⟨by rfl, ?_⟩) ?_ ?_
                  rotate_left
                  ·intro w'
                   go_simp
                   with_reducible rfl
                  rotate_left
                  ·simp only [Act.put, qa, qb, qc, i64_w, i32_w]
                   rfl
                  refine pure_ (i := 6) (N := some 112) (v := ?_) (a' := ?_) #[o,o,o,z,o,o,o,z,z,z] rfl rfl (any_of HT_.out (by kernel_rfl)) (fun _ _ _ h => h) (Or.inl ⟨by rfl, ?_⟩) ?_ ?_
                  rotate_left
                  ·intro w'
                   go_simp
                   with_reducible rfl
                  rotate_left
                  ·simp only [Act.put, qa, qb, qc, i64_w, i32_w]
                   rfl
                  refine pure_ (i := 7) (N := some 113) (v := ?_) (a' := ?_) #[o,o,o,z,o,o,o,o,z,z] rfl rfl (any_of HT_.out (by kernel_rfl)) (fun _ _ _ h => h) (Or.inl ⟨by rfl, ?_⟩) ?_ ?_
                  rotate_left
                  ·intro w'
                   go_simp
                   with_reducible rfl
                  rotate_left
                  ·simp only [Act.put, qa, qb, qc, i64_w, i32_w]
                   rfl
                  refine take_ (i := 3) (N := some 109) (v := ?_) (a' := ?_) #[o,o,o,o,o,o,o,o,z,z] rfl rfl (take_ofW HT_.out HW_.out (by kernel_rfl)) (fun _ _ _ h => h) (Or.inl ⟨by rfl, ?_⟩) hHeld ?_ ?_
                  rotate_left
                  ·rintro w' ⟨s0, s1, s2, s3, s4, s5, s6, s7, s8, s9, s10, s11, s12, s13, s14, s15⟩
                   go_simp
                   with_reducible rfl
                  rotate_left
                  ·simp only [Act.put, qa, qb, qc, i64_w, i32_w]
                   rfl
                  refine take_ (i := 8) (N := some 114) (v := ?_) (a' := ?_) #[o,o,o,o,o,o,o,o,o,z] rfl rfl (take_ofW HT_.out HW_.out (by kernel_rfl)) (fun _ _ _ h => h) (Or.inl ⟨by rfl, ?_⟩) hHeld ?_ ?_
                  rotate_left
                  ·rintro w' ⟨s0, s1, s2, s3, s4, s5, s6, s7, s8, s9, s10, s11, s12, s13, s14, s15⟩
                   go_simp
                   with_reducible rfl
                  rotate_left
                  ·simp only [Act.put, qa, qb, qc, i64_w, i32_w]
                   rfl
                  refine one_ (i := 9) (N := some 115) #[o,o,o,o,o,o,o,o,o,o] rfl rfl (one_of HT_.out (by kernel_rfl)) (by decide) (fun K hK => ?_)
                  refine goes_ Try.func31 (by kernel_rfl) rfl #[.agg #[.int .i64 ((rd_T37 t719 x9_4).f0), .int .i64 ((rd_T37 t719 x9_4).f1), .int .i64 ((rd_T37 t719 x9_4).f2.f0), .int .i64 ((rd_T37 t719 x9_4).f2.f1), .int .i64 ((rd_T37 t719 x9_4).f3), .int .i64 ((rd_T37 t719 x9_4).f4), .int .i64 ((rd_T37 t719 x9_4).f5.f0), .int .i64 ((rd_T37 t719 x9_4).f5.f1)], .agg #[.int .i64 ((rd_T37 t719 (ji78)).f0), .int .i64 ((rd_T37 t719 (ji78)).f1), .int .i64 ((rd_T37 t719 (ji78)).f2.f0), .int .i64 ((rd_T37 t719 (ji78)).f2.f1), .int .i64 ((rd_T37 t719 (ji78)).f3), .int .i64 ((rd_T37 t719 (ji78)).f4), .int .i64 ((rd_T37 t719 (ji78)).f5.f0), .int .i64 ((rd_T37 t719 (ji78)).f5.f1)]] (by rfl) rfl rfl (by (try simp only [List.map_toArray, List.map_cons, List.map_nil]); first | done | (simp only [hji78]; rfl) | rfl | (simp only [List.length_drop, List.length_take]; rfl)) ?_
                  with_reducible refine (impl_IsBefore.calls k4 ((rd_T37 t719 x9_4).f0) ((rd_T37 t719 x9_4).f1) ((rd_T37 t719 x9_4).f2.f0) ((rd_T37 t719 x9_4).f2.f1) ((rd_T37 t719 x9_4).f3) ((rd_T37 t719 x9_4).f4) ((rd_T37 t719 x9_4).f5.f0) ((rd_T37 t719 x9_4).f5.f1) ((rd_T37 t719 (ji78)).f0) ((rd_T37 t719 (ji78)).f1) ((rd_T37 t719 (ji78)).f2.f0) ((rd_T37 t719 (ji78)).f2.f1) ((rd_T37 t719 (ji78)).f3) ((rd_T37 t719 (ji78)).f4) ((rd_T37 t719 (ji78)).f5.f0) ((rd_T37 t719 (ji78)).f5.f1) false _ A81.out).mono ?_
                  rintro e w85 ⟨rfl, hb⟩
                  have HS0_ := (hb.cell (World.block_lt_of_cell? _ _ (hHeld.1))).trans (hHeld.1)
                  have HS1_ := (hb.cell (World.block_lt_of_cell? _ _ (hHeld.2.1))).trans (hHeld.2.1)
                  have HS2_ := (hb.cell (World.block_lt_of_cell? _ _ (hHeld.2.2.1))).trans (hHeld.2.2.1)
                  have HS3_ := (hb.cell (World.block_lt_of_cell? _ _ (hHeld.2.2.2.1))).trans (hHeld.2.2.2.1)
                  have HS4_ := (hb.cell (World.block_lt_of_cell? _ _ (hHeld.2.2.2.2.1))).trans (hHeld.2.2.2.2.1)
                  have HS5_ := (hb.cell (World.block_lt_of_cell? _ _ (hHeld.2.2.2.2.2.1))).trans (hHeld.2.2.2.2.2.1)
                  have HS6_ := (hb.cell (World.block_lt_of_cell? _ _ (hHeld.2.2.2.2.2.2.1))).trans (hHeld.2.2.2.2.2.2.1)
                  have HS7_ := (hb.cell (World.block_lt_of_cell? _ _ (hHeld.2.2.2.2.2.2.2.1))).trans (hHeld.2.2.2.2.2.2.2.1)
                  have HS8_ := (hb.cell (World.block_lt_of_cell? _ _ (hHeld.2.2.2.2.2.2.2.2.1))).trans (hHeld.2.2.2.2.2.2.2.2.1)
                  have HS9_ := (hb.cell (World.block_lt_of_cell? _ _ (hHeld.2.2.2.2.2.2.2.2.2.1))).trans (hHeld.2.2.2.2.2.2.2.2.2.1)
                  have HS10_ := (hb.cell (World.block_lt_of_cell? _ _ (hHeld.2.2.2.2.2.2.2.2.2.2.1))).trans (hHeld.2.2.2.2.2.2.2.2.2.2.1)
                  have HS11_ := (hb.cell (World.block_lt_of_cell? _ _ (hHeld.2.2.2.2.2.2.2.2.2.2.2.1))).trans (hHeld.2.2.2.2.2.2.2.2.2.2.2.1)
                  have HS12_ := (hb.cell (World.block_lt_of_cell? _ _ (hHeld.2.2.2.2.2.2.2.2.2.2.2.2.1))).trans (hHeld.2.2.2.2.2.2.2.2.2.2.2.2.1)
                  have HS13_ := (hb.cell (World.block_lt_of_cell? _ _ (hHeld.2.2.2.2.2.2.2.2.2.2.2.2.2.1))).trans (hHeld.2.2.2.2.2.2.2.2.2.2.2.2.2.1)
                  have HS14_ := (hb.cell (World.block_lt_of_cell? _ _ (hHeld.2.2.2.2.2.2.2.2.2.2.2.2.2.2.1))).trans (hHeld.2.2.2.2.2.2.2.2.2.2.2.2.2.2.1)
                  have HS15_ := (hb.cell (World.block_lt_of_cell? _ _ (hHeld.2.2.2.2.2.2.2.2.2.2.2.2.2.2.2))).trans (hHeld.2.2.2.2.2.2.2.2.2.2.2.2.2.2.2)
                  refine ⟨_, rfl, ?_⟩
                  replace HO_3 := am (Kd.R_below (rB HO_3.out) hb)
                  replace HO_8 := am (Kd.R_below (rB HO_8.out) hb)
                  replace BK701 := am (blk_below (bB BK701.out) hb)
                  replace HB := am (below_step (sB HB.out) hb)
                  (try clear hb)
                  (try clear hb2)
                  (try clear hk)
                  (try clear hi)
                  refine hK.out _ _ ⟨HS0_, HS1_, HS2_, HS3_, HS4_, HS5_, HS6_, HS7_, HS8_, HS9_, HS10_, HS11_, HS12_, HS13_, HS14_, HS15_⟩ (fun hHeld => ?_)
                  clear hK K
                  refine norm_ (a' := ?_) ?_ ?_
                  rotate_left
                  ·show Act.put _ (some 115) _ = _
                   simp only [Act.put, qa, qb, qc, i64_w, i32_w]
                   rfl
                  refine done_ (done_of HT_.out (by kernel_rfl)) ?_
                  try go_wp2
                  go_roundg k4
                  case measure => have := HJ6.out; have := HK2.out; have := HJ58.out; have := HK4.out; omega
                  case rel => exact ⟨(wrap64 (x9_4 + 1)), (by first | rfl | (simp; done) | (simp [*]; done)), H', ⟨by have := HJ6.out; have := HK2.out; have := HJ58.out; have := HK4.out; omega⟩, ⟨by (with_reducible repeat (first | apply Kd.R_alloc | apply Kd.R_drewN | apply Kd.R_drew)); exact HO_3.out⟩, ⟨by (with_reducible repeat (first | apply Kd.R_alloc | apply Kd.R_drewN | apply Kd.R_drew)); exact HO_8.out⟩, ⟨bB BK701.out⟩, ⟨sB HB.out⟩⟩
                ·rw [if_neg c80] at H
                 exact absurd H (by simp)
               ·rw [if_neg c79] at H
                exact absurd H (by simp)
              ·rw [if_neg c77] at H
               exact absurd H (by simp)
             ·rw [if_neg c76] at H
              have c76b0 : decide (x9_4 < (t719.length : Int)) = false := decide_eq_false c76
              clear c76
              replace H := Option.bind_eq_some_iff.mp H
              obtain ⟨t725, A860, H⟩ := H
              replace H : (if ((decide (t725 < 0)) == (decide (t702 < 0))) = true then (if t702 < 0 then (some true) else (if 0 ≤ t725 then (if t725 < (t719.length : Int) then (if 0 ≤ t702 then (if t702 < (t695.length : Int) then ((laws_sameRule.f ((rd_T37 t719 t725).f0) ((rd_T37 t719 t725).f1) ((rd_T37 t719 t725).f2.f0) ((rd_T37 t719 t725).f2.f1) ((rd_T37 t719 t725).f3) ((rd_T37 t719 t725).f4) ((rd_T37 t719 t725).f5.f0) ((rd_T37 t719 t725).f5.f1) ((rd_T37 t695 t702).f0) ((rd_T37 t695 t702).f1) ((rd_T37 t695 t702).f2.f0) ((rd_T37 t695 t702).f2.f1) ((rd_T37 t695 t702).f3) ((rd_T37 t695 t702).f4) ((rd_T37 t695 t702).f5.f0) ((rd_T37 t695 t702).f5.f1)).bind fun t728 => (some t728)) else (none)) else (none)) else (none)) else (none))) else (some false)) = some r := H
              have A86 := Aside0.mk A860
              clear A860
              by_cases c87 : ((decide (t725 < 0)) == (decide (t702 < 0))) = true
              ·rw [if_pos c87] at H
               have c87b0 : ((decide (t725 < 0)) == (decide (t702 < 0))) = true := c87
               (try (have c87b1 : decide ((decide (t725 < 0)) = (decide (t702 < 0))) = true := by simpa using c87))
               (try (have c87b2 : ((decide (t725 < 0)) == (decide (t702 < 0))) = true := by simpa using c87))
               clear c87
               by_cases c88 : t702 < 0
               ·rw [if_pos c88] at H
                have c88b0 : decide (t702 < 0) = true := decide_eq_true c88
                have c88z := (beq_iff_eq.1 c87b0).trans c88b0
                clear c88
                obtain rfl := Option.some.inj H
                obtain ⟨Ao89, co89, eo89⟩ := Kd.R_slice HO_8.out
                subst eo89
                have hcz90_0 : wr.cell? ⟨gb701, 0, none⟩ = some (.int .i64 t698) := (blk_cell BK701.out 0).trans rfl
                have hcz90_1 : wr.cell? ⟨gb701, 1, none⟩ = some (.int .i64 t699) := (blk_cell BK701.out 1).trans rfl
                have hcz90_2 : wr.cell? ⟨gb701, 2, none⟩ = some (.int .i64 t700) := (blk_cell BK701.out 2).trans rfl
                have hfz90_0 := blk_frozen BK701.out 0
                have hfz90_1 := blk_frozen BK701.out 1
                have hfz90_2 := blk_frozen BK701.out 2
                try go_wp2_with (first | ((with_reducible refine gate_callee (f := 11) rfl ?_); refine goesL_ (some 118) rfl rfl Try.func11 (by kernel_rfl) rfl #[.slice Ao89 t719.length co89, .agg #[.int .i64 t698, .int .i64 t699, .int .i64 t700]] rfl (by (try simp only [List.map_toArray, List.map_cons, List.map_nil]); first | done | rfl | (simp only [List.length_drop, List.length_take]; rfl)) ?_; (with_reducible refine (impl_DecideRule.calls k4 _ _ t719 t698 t699 t700 t725 _ ?side1 ?side2 A86.out).mono ?_); (case side1 => exact cB ((Kd.R_reads' HO_8.out).2.2)); (case side2 => exact (Kd.R_reads' HO_8.out).2.1); rintro e w91 ⟨rfl, hb⟩; refine ⟨_, rfl, ?_⟩; replace HO_3 := am (Kd.R_below (rB HO_3.out) hb); replace HO_8 := am (Kd.R_below (rB HO_8.out) hb); replace BK701 := am (blk_below (bB BK701.out) hb); replace HB := am (below_step (sB HB.out) hb); (try clear hb); (try clear hb2); (try clear hk); (try clear hi)))
                replace HO_3 := am (Kd.R_drew HO_3.out)
                replace HO_8 := am (Kd.R_drew HO_8.out)
                replace BK701 := am (blk_drew BK701.out)
                replace HB := am (below_drew1 HB.out)
                refine start_ (n := 21) (S := fun w' => True) (ds := []) #[z,z,z,z,z,z,z,z,z,z,z,z,z,z,z,z,z,z,z,z,z] (by kernel_rfl) rfl rfl trivial (fun hHeld => ?_); refine with_tabW laws_FnDecided.tab22 laws_FnDecided.bits22 (fun HT_ HW_ => ?_)
                generalize w91.drew = w92 at HO_3 HO_8 BK701 HB hHeld ⊢
                refine pure_ (i := 0) (N := some 119) (v := ?_) (a' := ?_) #[o,z,z,z,z,z,z,z,z,z,z,z,z,z,z,z,z,z,z,z,z] rfl rfl (any_of HT_.out (by kernel_rfl)) (fun _ _ _ h => h) (Or.inl ⟨by rfl, ?_⟩) ?_ ?_
                rotate_left
                ·intro w'
                 go_simp
                 with_reducible rfl
                rotate_left
                ·simp only [Act.put, qa, qb, qc, i64_w, i32_w]
                 rfl
                refine pure_ (i := 1) (N := some 120) (v := ?_) (a' := ?_) #[o,o,z,z,z,z,z,z,z,z,z,z,z,z,z,z,z,z,z,z,z] rfl rfl (any_of HT_.out (by kernel_rfl)) (fun _ _ _ h => h) (Or.inl ⟨by rfl, ?_⟩) ?_ ?_
                rotate_left
                ·intro w'
                 go_simp
                 with_reducible rfl
                rotate_left
                ·simp only [Act.put, qa, qb, qc, i64_w, i32_w]
                 rfl
                refine pure_ (i := 2) (N := some 121) (v := ?_) (a' := ?_) #[o,o,o,z,z,z,z,z,z,z,z,z,z,z,z,z,z,z,z,z,z] rfl rfl (any_of HT_.out (by kernel_rfl)) (fun _ _ _ h => h) (Or.inl ⟨by rfl, ?_⟩) ?_ ?_
                rotate_left
                ·intro w'
                 go_simp
                 with_reducible rfl
                rotate_left
                ·simp only [Act.put, qa, qb, qc, i64_w, i32_w]
                 rfl
                refine pure_ (i := 3) (N := some 122) (v := ?_) (a' := ?_) #[o,o,o,o,z,z,z,z,z,z,z,z,z,z,z,z,z,z,z,z,z] rfl rfl (any_of HT_.out (by kernel_rfl)) (fun _ _ _ h => h) (Or.inl ⟨by rfl, ?_⟩) ?_ ?_
                rotate_left
                ·intro w'
                 go_simp
                 with_reducible rfl
                rotate_left
                ·simp only [Act.put, qa, qb, qc, i64_w, i32_w]
                 rfl
                refine pure_ (i := 4) (N := some 123) (v := ?_) (a' := ?_) #[o,o,o,o,o,z,z,z,z,z,z,z,z,z,z,z,z,z,z,z,z] rfl rfl (any_of HT_.out (by kernel_rfl)) (fun _ _ _ h => h) (Or.inl ⟨by rfl, ?_⟩) ?_ ?_
                rotate_left
                ·intro w'
                 go_simp
                 with_reducible rfl
                rotate_left
                ·simp only [Act.put, qa, qb, qc, i64_w, i32_w]
                 rfl
                refine pure_ (i := 5) (N := some 124) (v := ?_) (a' := ?_) #[o,o,o,o,o,o,z,z,z,z,z,z,z,z,z,z,z,z,z,z,z] rfl rfl (any_of HT_.out (by kernel_rfl)) (fun _ _ _ h => h) (Or.inl ⟨by rfl, ?_⟩) ?_ ?_
                rotate_left
                ·intro w'
                 go_simp
                 with_reducible rfl
                rotate_left
                ·simp only [Act.put, qa, qb, qc, i64_w, i32_w]
                 rfl
                refine pure_ (i := 6) (N := some 125) (v := ?_) (a' := ?_) #[o,o,o,o,o,o,o,z,z,z,z,z,z,z,z,z,z,z,z,z,z] rfl rfl (any_of HT_.out (by kernel_rfl)) (fun _ _ _ h => h) (Or.inl ⟨by rfl, ?_⟩) ?_ ?_
                rotate_left
                ·intro w'
                 go_simp
                 with_reducible rfl
                rotate_left
                ·simp only [Act.put, qa, qb, qc, i64_w, i32_w]
                 rfl
                refine pure_ (i := 7) (N := some 126) (v := ?_) (a' := ?_) #[o,o,o,o,o,o,o,o,z,z,z,z,z,z,z,z,z,z,z,z,z] rfl rfl (any_of HT_.out (by kernel_rfl)) (fun _ _ _ h => h) (Or.inl ⟨by rfl, ?_⟩) ?_ ?_
                rotate_left
                ·intro w'
                 go_simp
                 with_reducible rfl
                rotate_left
                ·simp only [Act.put, qa, qb, qc, i64_w, i32_w]
                 rfl
                refine pure_ (i := 8) (N := some 127) (v := ?_) (a' := ?_) #[o,o,o,o,o,o,o,o,o,z,z,z,z,z,z,z,z,z,z,z,z] rfl rfl (any_of HT_.out (by kernel_rfl)) (fun _ _ _ h => h) (Or.inl ⟨by rfl, ?_⟩) ?_ ?_
                rotate_left
                ·intro w'
                 go_simp
                 with_reducible rfl
                rotate_left
                ·simp only [Act.put, qa, qb, qc, i64_w, i32_w]
                 rfl
                refine pure_ (i := 9) (N := some 128) (v := undef) (a' := ?_) #[o,o,o,o,o,o,o,o,o,o,z,z,z,z,z,z,z,z,z,z,z] rfl rfl (any_of HT_.out (by kernel_rfl)) (fun _ _ _ h => h) (Or.inr ⟨by rfl, rfl⟩) ?_ ?_
                rotate_left
                ·simp only [Act.put, qa, qb, qc, i64_w, i32_w]
                 rfl
                refine pure_ (i := 10) (N := some 129) (v := undef) (a' := ?_) #[o,o,o,o,o,o,o,o,o,o,o,z,z,z,z,z,z,z,z,z,z] rfl rfl (any_of HT_.out (by kernel_rfl)) (fun _ _ _ h => h) (Or.inr ⟨by rfl, rfl⟩) ?_ ?_
                rotate_left
                ·simp only [Act.put, qa, qb, qc, i64_w, i32_w]
                 rfl
                refine pure_ (i := 11) (N := some 130) (v := undef) (a' := ?_) #[o,o,o,o,o,o,o,o,o,o,o,o,z,z,z,z,z,z,z,z,z] rfl rfl (any_of HT_.out (by kernel_rfl)) (fun _ _ _ h => h) (Or.inr ⟨by rfl, rfl⟩) ?_ ?_
                rotate_left
                ·simp only [Act.put, qa, qb, qc, i64_w, i32_w]
                 rfl
                refine pure_ (i := 12) (N := some 131) (v := undef) (a' := ?_) #[o,o,o,o,o,o,o,o,o,o,o,o,o,z,z,z,z,z,z,z,z] rfl rfl (any_of HT_.out (by kernel_rfl)) (fun _ _ _ h => h) (Or.inr ⟨by rfl, rfl⟩) ?_ ?_
                rotate_left
                ·simp only [Act.put, qa, qb, qc, i64_w, i32_w]
                 rfl
                refine pure_ (i := 13) (N := some 132) (v := undef) (a' := ?_) #[o,o,o,o,o,o,o,o,o,o,o,o,o,o,z,z,z,z,z,z,z] rfl rfl (any_of HT_.out (by kernel_rfl)) (fun _ _ _ h => h) (Or.inr ⟨by rfl, rfl⟩) ?_ ?_
                rotate_left
                ·simp only [Act.put, qa, qb, qc, i64_w, i32_w]
                 rfl
                refine pure_ (i := 14) (N := some 133) (v := undef) (a' := ?_) #[o,o,o,o,o,o,o,o,o,o,o,o,o,o,o,z,z,z,z,z,z] rfl rfl (any_of HT_.out (by kernel_rfl)) (fun _ _ _ h => h) (Or.inr ⟨by rfl, rfl⟩) ?_ ?_
                rotate_left
                ·simp only [Act.put, qa, qb, qc, i64_w, i32_w]
                 rfl
                refine pure_ (i := 15) (N := some 134) (v := undef) (a' := ?_) #[o,o,o,o,o,o,o,o,o,o,o,o,o,o,o,o,z,z,z,z,z] rfl rfl (any_of HT_.out (by kernel_rfl)) (fun _ _ _ h => h) (Or.inr ⟨by rfl, rfl⟩) ?_ ?_
                rotate_left
                ·simp only [Act.put, qa, qb, qc, i64_w, i32_w]
                 rfl
                refine pure_ (i := 16) (N := some 135) (v := undef) (a' := ?_) #[o,o,o,o,o,o,o,o,o,o,o,o,o,o,o,o,o,z,z,z,z] rfl rfl (any_of HT_.out (by kernel_rfl)) (fun _ _ _ h => h) (Or.inr ⟨by rfl, rfl⟩) ?_ ?_
                rotate_left
                ·simp only [Act.put, qa, qb, qc, i64_w, i32_w]
                 rfl
                refine pure_ (i := 17) (N := some 136) (v := undef) (a' := ?_) #[o,o,o,o,o,o,o,o,o,o,o,o,o,o,o,o,o,o,z,z,z] rfl rfl (any_of HT_.out (by kernel_rfl)) (fun _ _ _ h => h) (Or.inr ⟨by rfl, rfl⟩) ?_ ?_
                rotate_left
                ·simp only [Act.put, qa, qb, qc, i64_w, i32_w]
                 rfl
                refine pure_ (i := 18) (N := some 137) (v := ?_) (a' := ?_) #[o,o,o,o,o,o,o,o,o,o,o,o,o,o,o,o,o,o,o,z,z] rfl rfl (any_of HT_.out (by kernel_rfl)) (fun _ _ _ h => h) (Or.inl ⟨by rfl, ?_⟩) ?_ ?_
                rotate_left
                ·intro w'
                 go_simp
                 with_reducible rfl
                rotate_left
                ·simp only [Act.put, qa, qb, qc, i64_w, i32_w]
                 rfl
                refine pure_ (i := 19) (N := some 138) (v := ?_) (a' := ?_) #[o,o,o,o,o,o,o,o,o,o,o,o,o,o,o,o,o,o,o,o,z] rfl rfl (any_of HT_.out (by kernel_rfl)) (fun _ _ _ h => h) (Or.inl ⟨by rfl, ?_⟩) ?_ ?_
                rotate_left
                ·intro w'
                 go_simp
                 with_reducible rfl
                rotate_left
                ·simp only [Act.put, qa, qb, qc, i64_w, i32_w]
                 rfl
                refine pure_ (i := 20) (N := some 2) (v := ?_) (a' := ?_) #[o,o,o,o,o,o,o,o,o,o,o,o,o,o,o,o,o,o,o,o,o] rfl rfl (any_of HT_.out (by kernel_rfl)) (fun _ _ _ h => h) (Or.inl ⟨by rfl, ?_⟩) ?_ ?_
                rotate_left
                ·intro w'
                 go_simp
                 with_reducible rfl
                rotate_left
                ·simp only [Act.put, qa, qb, qc, i64_w, i32_w]
                 rfl
                refine done_ (done_of HT_.out (by kernel_rfl)) ?_
                try go_wp2
                go_ret
                exact ⟨by first | rfl | (simp [errW_none, errW_some] <;> rfl) | (simp [*, errW_none, errW_some] <;> rfl), sB HB.out⟩
               ·rw [if_neg c88] at H
                have c88b0 : decide (t702 < 0) = false := decide_eq_false c88
                have c88z := (beq_iff_eq.1 c87b0).trans c88b0
                clear c88
                by_cases c93 : 0 ≤ t725
                ·rw [if_pos c93] at H
                 have c93b0 : decide (0 ≤ t725) = true := decide_eq_true c93
                 clear c93
                 by_cases c94 : t725 < (t719.length : Int)
                 ·rw [if_pos c94] at H
                  have c94b0 : decide (t725 < (t719.length : Int)) = true := decide_eq_true c94
                  clear c94
                  by_cases c95 : 0 ≤ t702
                  ·rw [if_pos c95] at H
                   have c95b0 : decide (0 ≤ t702) = true := decide_eq_true c95
                   clear c95
                   by_cases c96 : t702 < (t695.length : Int)
                   ·rw [if_pos c96] at H
                    have c96b0 : decide (t702 < (t695.length : Int)) = true := decide_eq_true c96
                    clear c96
                    replace H := Option.bind_eq_some_iff.mp H
                    obtain ⟨t728, A970, H⟩ := H
                    replace H : (some t728) = some r := H
                    have A97 := Aside0.mk A970
                    clear A970
                    obtain rfl := Option.some.inj H
                    obtain ⟨Ao98, co98, eo98⟩ := Kd.R_slice HO_8.out
                    subst eo98
                    have hcz99_0 : wr.cell? ⟨gb701, 0, none⟩ = some (.int .i64 t698) := (blk_cell BK701.out 0).trans rfl
                    have hcz99_1 : wr.cell? ⟨gb701, 1, none⟩ = some (.int .i64 t699) := (blk_cell BK701.out 1).trans rfl
                    have hcz99_2 : wr.cell? ⟨gb701, 2, none⟩ = some (.int .i64 t700) := (blk_cell BK701.out 2).trans rfl
                    have hfz99_0 := blk_frozen BK701.out 0
                    have hfz99_1 := blk_frozen BK701.out 1
                    have hfz99_2 := blk_frozen BK701.out 2
                    try go_wp2_with (first | ((with_reducible refine gate_callee (f := 11) rfl ?_); refine goesL_ (some 118) rfl rfl Try.func11 (by kernel_rfl) rfl #[.slice Ao98 t719.length co98, .agg #[.int .i64 t698, .int .i64 t699, .int .i64 t700]] rfl (by (try simp only [List.map_toArray, List.map_cons, List.map_nil]); first | done | rfl | (simp only [List.length_drop, List.length_take]; rfl)) ?_; (with_reducible refine (impl_DecideRule.calls k4 _ _ t719 t698 t699 t700 t725 _ ?side1 ?side2 A86.out).mono ?_); (case side1 => exact cB ((Kd.R_reads' HO_8.out).2.2)); (case side2 => exact (Kd.R_reads' HO_8.out).2.1); rintro e w100 ⟨rfl, hb⟩; refine ⟨_, rfl, ?_⟩; replace HO_3 := am (Kd.R_below (rB HO_3.out) hb); replace HO_8 := am (Kd.R_below (rB HO_8.out) hb); replace BK701 := am (blk_below (bB BK701.out) hb); replace HB := am (below_step (sB HB.out) hb); (try clear hb); (try clear hb2); (try clear hk); (try clear hi)))
                    replace HO_3 := am (Kd.R_drew HO_3.out)
                    replace HO_8 := am (Kd.R_drew HO_8.out)
                    replace BK701 := am (blk_drew BK701.out)
                    replace HB := am (below_drew1 HB.out)
                    have p726 : 0 ≤ (t725 : Int) := of_decide_eq_true (by first | (with_reducible assumption) | assumption)
                    have q726 : t725 < (t719.length : Int) := of_decide_eq_true (by first | (with_reducible assumption) | assumption)
                    obtain ⟨ad726, e726, hx726_0, hx726_1, hx726_2, hx726_3, hx726_4, hx726_5, hx726_6, hx726_7⟩ := at_T37 (Kd.R_reads' HO_8.out).2.2 t725 p726 q726
                    cases e726
                    replace p726 := eq_true p726
                    replace q726 := eq_true q726
                    have p727 : 0 ≤ (t702 : Int) := of_decide_eq_true (by first | (with_reducible assumption) | assumption)
                    have q727 : t702 < (t695.length : Int) := of_decide_eq_true (by first | (with_reducible assumption) | assumption)
                    obtain ⟨ad727, e727, hx727_0, hx727_1, hx727_2, hx727_3, hx727_4, hx727_5, hx727_6, hx727_7⟩ := at_T37 (Kd.R_reads' HO_3.out).2.2 t702 p727 q727
                    cases e727
                    replace p727 := eq_true p727
                    replace q727 := eq_true q727
                    refine start_ (n := 21) (S := fun w' => w'.cell? (ad726.add ((t725).toNat * 8)) = some (.int .i64 ((rd_T37 t719 t725).f0)) ∧ w'.cell? ⟨(ad726.add ((t725).toNat * 8)).block, (ad726.add ((t725).toNat * 8)).off + 1, none⟩ = some (.int .i64 ((rd_T37 t719 t725).f1)) ∧ w'.cell? ⟨(ad726.add ((t725).toNat * 8)).block, (ad726.add ((t725).toNat * 8)).off + 2, none⟩ = some (.int .i64 ((rd_T37 t719 t725).f2.f0)) ∧ w'.cell? ⟨(ad726.add ((t725).toNat * 8)).block, (ad726.add ((t725).toNat * 8)).off + 3, none⟩ = some (.int .i64 ((rd_T37 t719 t725).f2.f1)) ∧ w'.cell? ⟨(ad726.add ((t725).toNat * 8)).block, (ad726.add ((t725).toNat * 8)).off + 4, none⟩ = some (.int .i64 ((rd_T37 t719 t725).f3)) ∧ w'.cell? ⟨(ad726.add ((t725).toNat * 8)).block, (ad726.add ((t725).toNat * 8)).off + 5, none⟩ = some (.int .i64 ((rd_T37 t719 t725).f4)) ∧ w'.cell? ⟨(ad726.add ((t725).toNat * 8)).block, (ad726.add ((t725).toNat * 8)).off + 6, none⟩ = some (.int .i64 ((rd_T37 t719 t725).f5.f0)) ∧ w'.cell? ⟨(ad726.add ((t725).toNat * 8)).block, (ad726.add ((t725).toNat * 8)).off + 7, none⟩ = some (.int .i64 ((rd_T37 t719 t725).f5.f1)) ∧ w'.cell? (ad727.add ((t702).toNat * 8)) = some (.int .i64 ((rd_T37 t695 t702).f0)) ∧ w'.cell? ⟨(ad727.add ((t702).toNat * 8)).block, (ad727.add ((t702).toNat * 8)).off + 1, none⟩ = some (.int .i64 ((rd_T37 t695 t702).f1)) ∧ w'.cell? ⟨(ad727.add ((t702).toNat * 8)).block, (ad727.add ((t702).toNat * 8)).off + 2, none⟩ = some (.int .i64 ((rd_T37 t695 t702).f2.f0)) ∧ w'.cell? ⟨(ad727.add ((t702).toNat * 8)).block, (ad727.add ((t702).toNat * 8)).off + 3, none⟩ = some (.int .i64 ((rd_T37 t695 t702).f2.f1)) ∧ w'.cell? ⟨(ad727.add ((t702).toNat * 8)).block, (ad727.add ((t702).toNat * 8)).off + 4, none⟩ = some (.int .i64 ((rd_T37 t695 t702).f3)) ∧ w'.cell? ⟨(ad727.add ((t702).toNat * 8)).block, (ad727.add ((t702).toNat * 8)).off + 5, none⟩ = some (.int .i64 ((rd_T37 t695 t702).f4)) ∧ w'.cell? ⟨(ad727.add ((t702).toNat * 8)).block, (ad727.add ((t702).toNat * 8)).off + 6, none⟩ = some (.int .i64 ((rd_T37 t695 t702).f5.f0)) ∧ w'.cell? ⟨(ad727.add ((t702).toNat * 8)).block, (ad727.add ((t702).toNat * 8)).off + 7, none⟩ = some (.int .i64 ((rd_T37 t695 t702).f5.f1))) (ds := []) #[z,z,z,z,z,z,z,z,z,z,z,z,z,z,z,z,z,z,z,z,z] (by kernel_rfl) rfl rfl ⟨hx726_0, hx726_1, hx726_2, hx726_3, hx726_4, hx726_5, hx726_6, hx726_7, hx727_0, hx727_1, hx727_2, hx727_3, hx727_4, hx727_5, hx727_6, hx727_7⟩ (fun hHeld => ?_); refine with_tabW laws_FnDecided.tab22 laws_FnDecided.bits22 (fun HT_ HW_ => ?_)
                    generalize w100.drew = w101 at HO_3 HO_8 BK701 HB hx726_0 hx726_1 hx726_2 hx726_3 hx726_4 hx726_5 hx726_6 hx726_7 hx727_0 hx727_1 hx727_2 hx727_3 hx727_4 hx727_5 hx727_6 hx727_7 hHeld ⊢
                    refine pure_ (i := 0) (N := some 119) (v := ?_) (a' := ?_) #[o,z,z,z,z,z,z,z,z,z,z,z,z,z,z,z,z,z,z,z,z] rfl rfl (any_of HT_.out (by kernel_rfl)) (fun _ _ _ h => h) (Or.inl ⟨by rfl, ?_⟩) ?_ ?_
                    rotate_left
                    ·intro w'
                     go_simp
                     with_reducible rfl
                    rotate_left
                    ·simp only [Act.put, qa, qb, qc, i64_w, i32_w]
                     rfl
                    refine pure_ (i := 1) (N := some 120) (v := ?_) (a' := ?_) #[o,o,z,z,z,z,z,z,z,z,z,z,z,z,z,z,z,z,z,z,z] rfl rfl (any_of HT_.out (by kernel_rfl)) (fun _ _ _ h => h) (Or.inl ⟨by rfl, ?_⟩) ?_ ?_
                    rotate_left
                    ·intro w'
                     go_simp
                     with_reducible rfl
                    rotate_left
                    ·simp only [Act.put, qa, qb, qc, i64_w, i32_w]
                     rfl
                    refine pure_ (i := 2) (N := some 121) (v := ?_) (a' := ?_) #[o,o,o,z,z,z,z,z,z,z,z,z,z,z,z,z,z,z,z,z,z] rfl rfl (any_of HT_.out (by kernel_rfl)) (fun _ _ _ h => h) (Or.inl ⟨by rfl, ?_⟩) ?_ ?_
                    rotate_left
                    ·intro w'
                     go_simp
                     with_reducible rfl
                    rotate_left
                    ·simp only [Act.put, qa, qb, qc, i64_w, i32_w]
                     rfl
                    refine pure_ (i := 3) (N := some 122) (v := ?_) (a' := ?_) #[o,o,o,o,z,z,z,z,z,z,z,z,z,z,z,z,z,z,z,z,z] rfl rfl (any_of HT_.out (by kernel_rfl)) (fun _ _ _ h => h) (Or.inl ⟨by rfl, ?_⟩) ?_ ?_
                    rotate_left
                    ·intro w'
                     go_simp
                     with_reducible rfl
                    rotate_left
                    ·simp only [Act.put, qa, qb, qc, i64_w, i32_w]
                     rfl
                    refine pure_ (i := 4) (N := some 123) (v := ?_) (a' := ?_) #[o,o,o,o,o,z,z,z,z,z,z,z,z,z,z,z,z,z,z,z,z] rfl rfl (any_of HT_.out (by kernel_rfl)) (fun _ _ _ h => h) (Or.inl ⟨by rfl, ?_⟩) ?_ ?_
                    rotate_left
                    ·intro w'
                     go_simp
                     with_reducible rfl
                    rotate_left
                    ·simp only [Act.put, qa, qb, qc, i64_w, i32_w]
                     rfl
                    refine pure_ (i := 5) (N := some 124) (v := ?_) (a' := ?_) #[o,o,o,o,o,o,z,z,z,z,z,z,z,z,z,z,z,z,z,z,z] rfl rfl (any_of HT_.out (by kernel_rfl)) (fun _ _ _ h => h) (Or.inl ⟨by rfl, ?_⟩) ?_ ?_
                    rotate_left
                    ·intro w'
                     go_simp
                     with_reducible rfl
                    rotate_left
                    ·simp only [Act.put, qa, qb, qc, i64_w, i32_w]
                     rfl
                    refine pure_ (i := 6) (N := some 125) (v := ?_) (a' := ?_) #[o,o,o,o,o,o,o,z,z,z,z,z,z,z,z,z,z,z,z,z,z] rfl rfl (any_of HT_.out (by kernel_rfl)) (fun _ _ _ h => h) (Or.inl ⟨by rfl, ?_⟩) ?_ ?_
                    rotate_left
                    ·intro w'
                     go_simp
                     with_reducible rfl
                    rotate_left
                    ·simp only [Act.put, qa, qb, qc, i64_w, i32_w]
                     rfl
                    refine pure_ (i := 7) (N := some 126) (v := ?_) (a' := ?_) #[o,o,o,o,o,o,o,o,z,z,z,z,z,z,z,z,z,z,z,z,z] rfl rfl (any_of HT_.out (by kernel_rfl)) (fun _ _ _ h => h) (Or.inl ⟨by rfl, ?_⟩) ?_ ?_
                    rotate_left
                    ·intro w'
                     go_simp
                     with_reducible rfl
                    rotate_left
                    ·simp only [Act.put, qa, qb, qc, i64_w, i32_w]
                     rfl
                    refine pure_ (i := 8) (N := some 127) (v := ?_) (a' := ?_) #[o,o,o,o,o,o,o,o,o,z,z,z,z,z,z,z,z,z,z,z,z] rfl rfl (any_of HT_.out (by kernel_rfl)) (fun _ _ _ h => h) (Or.inl ⟨by rfl, ?_⟩) ?_ ?_
                    rotate_left
                    ·intro w'
                     go_simp
                     with_reducible rfl
                    rotate_left
                    ·simp only [Act.put, qa, qb, qc, i64_w, i32_w]
                     rfl
                    refine pure_ (i := 9) (N := some 128) (v := ?_) (a' := ?_) #[o,o,o,o,o,o,o,o,o,o,z,z,z,z,z,z,z,z,z,z,z] rfl rfl (any_of HT_.out (by kernel_rfl)) (fun _ _ _ h => h) (Or.inl ⟨by rfl, ?_⟩) ?_ ?_
                    rotate_left
                    ·intro w'
                     go_simp
                     with_reducible rfl
                    rotate_left
                    ·simp only [Act.put, qa, qb, qc, i64_w, i32_w]
                     rfl
                    refine pure_ (i := 10) (N := some 129) (v := ?_) (a' := ?_) #[o,o,o,o,o,o,o,o,o,o,o,z,z,z,z,z,z,z,z,z,z] rfl rfl (any_of HT_.out (by kernel_rfl)) (fun _ _ _ h => h) (Or.inl ⟨by rfl, ?_⟩) ?_ ?_
                    rotate_left
                    ·intro w'
                     go_simp
                     with_reducible rfl
                    rotate_left
                    ·simp only [Act.put, qa, qb, qc, i64_w, i32_w]
                     rfl
                    refine pure_ (i := 11) (N := some 130) (v := ?_) (a' := ?_) #[o,o,o,o,o,o,o,o,o,o,o,o,z,z,z,z,z,z,z,z,z] rfl rfl (any_of HT_.out (by kernel_rfl)) (fun _ _ _ h => h) (Or.inl ⟨by rfl, ?_⟩) ?_ ?_
                    rotate_left
                    ·intro w'
                     go_simp
                     with_reducible rfl
                    rotate_left
                    ·simp only [Act.put, qa, qb, qc, i64_w, i32_w]
                     rfl
                    refine pure_ (i := 13) (N := some 132) (v := ?_) (a' := ?_) #[o,o,o,o,o,o,o,o,o,o,o,o,z,o,z,z,z,z,z,z,z] rfl rfl (any_of HT_.out (by kernel_rfl)) (fun _ _ _ h => h) (Or.inl ⟨by rfl, ?_⟩) ?_ ?_
                    rotate_left
                    ·intro w'
                     go_simp
                     with_reducible rfl
                    rotate_left
                    ·simp only [Act.put, qa, qb, qc, i64_w, i32_w]
                     rfl
                    refine pure_ (i := 14) (N := some 133) (v := ?_) (a' := ?_) #[o,o,o,o,o,o,o,o,o,o,o,o,z,o,o,z,z,z,z,z,z] rfl rfl (any_of HT_.out (by kernel_rfl)) (fun _ _ _ h => h) (Or.inl ⟨by rfl, ?_⟩) ?_ ?_
                    rotate_left
                    ·intro w'
                     go_simp
                     with_reducible rfl
                    rotate_left
                    ·simp only [Act.put, qa, qb, qc, i64_w, i32_w]
                     rfl
                    refine pure_ (i := 15) (N := some 134) (v := ?_) (a' := ?_) #[o,o,o,o,o,o,o,o,o,o,o,o,z,o,o,o,z,z,z,z,z] rfl rfl (any_of HT_.out (by kernel_rfl)) (fun _ _ _ h => h) (Or.inl ⟨by rfl, ?_⟩) ?_ ?_
                    rotate_left
                    ·intro w'
                     go_simp
                     with_reducible rfl
                    rotate_left
                    ·simp only [Act.put, qa, qb, qc, i64_w, i32_w]
                     rfl
                    refine take_ (i := 12) (N := some 131) (v := ?_) (a' := ?_) #[o,o,o,o,o,o,o,o,o,o,o,o,o,o,o,o,z,z,z,z,z] rfl rfl (take_ofW HT_.out HW_.out (by kernel_rfl)) (fun _ _ _ h => h) (Or.inl ⟨by rfl, ?_⟩) hHeld ?_ ?_
                    rotate_left
                    ·rintro w' ⟨s0, s1, s2, s3, s4, s5, s6, s7, s8, s9, s10, s11, s12, s13, s14, s15⟩
                     go_simp
                     with_reducible rfl
                    rotate_left
                    ·simp only [Act.put, qa, qb, qc, i64_w, i32_w]
                     rfl
                    refine take_ (i := 16) (N := some 135) (v := ?_) (a' := ?_) #[o,o,o,o,o,o,o,o,o,o,o,o,o,o,o,o,o,z,z,z,z] rfl rfl (take_ofW HT_.out HW_.out (by kernel_rfl)) (fun _ _ _ h => h) (Or.inl ⟨by rfl, ?_⟩) hHeld ?_ ?_
                    rotate_left
                    ·rintro w' ⟨s0, s1, s2, s3, s4, s5, s6, s7, s8, s9, s10, s11, s12, s13, s14, s15⟩
                     go_simp
                     with_reducible rfl
                    rotate_left
                    ·simp only [Act.put, qa, qb, qc, i64_w, i32_w]
                     rfl
                    refine one_ (i := 17) (N := some 136) #[o,o,o,o,o,o,o,o,o,o,o,o,o,o,o,o,o,o,z,z,z] rfl rfl (one_of HT_.out (by kernel_rfl)) (by decide) (fun K hK => ?_)
                    refine goes_ Try.func12 (by kernel_rfl) rfl #[.agg #[.int .i64 ((rd_T37 t719 t725).f0), .int .i64 ((rd_T37 t719 t725).f1), .int .i64 ((rd_T37 t719 t725).f2.f0), .int .i64 ((rd_T37 t719 t725).f2.f1), .int .i64 ((rd_T37 t719 t725).f3), .int .i64 ((rd_T37 t719 t725).f4), .int .i64 ((rd_T37 t719 t725).f5.f0), .int .i64 ((rd_T37 t719 t725).f5.f1)], .agg #[.int .i64 ((rd_T37 t695 t702).f0), .int .i64 ((rd_T37 t695 t702).f1), .int .i64 ((rd_T37 t695 t702).f2.f0), .int .i64 ((rd_T37 t695 t702).f2.f1), .int .i64 ((rd_T37 t695 t702).f3), .int .i64 ((rd_T37 t695 t702).f4), .int .i64 ((rd_T37 t695 t702).f5.f0), .int .i64 ((rd_T37 t695 t702).f5.f1)]] (by rfl) rfl rfl (by (try simp only [List.map_toArray, List.map_cons, List.map_nil]); first | done | rfl | (simp only [List.length_drop, List.length_take]; rfl)) ?_
                    with_reducible refine (laws_sameRule.calls ((rd_T37 t719 t725).f0) ((rd_T37 t719 t725).f1) ((rd_T37 t719 t725).f2.f0) ((rd_T37 t719 t725).f2.f1) ((rd_T37 t719 t725).f3) ((rd_T37 t719 t725).f4) ((rd_T37 t719 t725).f5.f0) ((rd_T37 t719 t725).f5.f1) ((rd_T37 t695 t702).f0) ((rd_T37 t695 t702).f1) ((rd_T37 t695 t702).f2.f0) ((rd_T37 t695 t702).f2.f1) ((rd_T37 t695 t702).f3) ((rd_T37 t695 t702).f4) ((rd_T37 t695 t702).f5.f0) ((rd_T37 t695 t702).f5.f1) t728 _ A97.out).mono ?_
                    rintro e w102 ⟨rfl, hb⟩
                    have HS0_ := (hb.cell (World.block_lt_of_cell? _ _ (hHeld.1))).trans (hHeld.1)
                    have HS1_ := (hb.cell (World.block_lt_of_cell? _ _ (hHeld.2.1))).trans (hHeld.2.1)
                    have HS2_ := (hb.cell (World.block_lt_of_cell? _ _ (hHeld.2.2.1))).trans (hHeld.2.2.1)
                    have HS3_ := (hb.cell (World.block_lt_of_cell? _ _ (hHeld.2.2.2.1))).trans (hHeld.2.2.2.1)
                    have HS4_ := (hb.cell (World.block_lt_of_cell? _ _ (hHeld.2.2.2.2.1))).trans (hHeld.2.2.2.2.1)
                    have HS5_ := (hb.cell (World.block_lt_of_cell? _ _ (hHeld.2.2.2.2.2.1))).trans (hHeld.2.2.2.2.2.1)
                    have HS6_ := (hb.cell (World.block_lt_of_cell? _ _ (hHeld.2.2.2.2.2.2.1))).trans (hHeld.2.2.2.2.2.2.1)
                    have HS7_ := (hb.cell (World.block_lt_of_cell? _ _ (hHeld.2.2.2.2.2.2.2.1))).trans (hHeld.2.2.2.2.2.2.2.1)
                    have HS8_ := (hb.cell (World.block_lt_of_cell? _ _ (hHeld.2.2.2.2.2.2.2.2.1))).trans (hHeld.2.2.2.2.2.2.2.2.1)
                    have HS9_ := (hb.cell (World.block_lt_of_cell? _ _ (hHeld.2.2.2.2.2.2.2.2.2.1))).trans (hHeld.2.2.2.2.2.2.2.2.2.1)
                    have HS10_ := (hb.cell (World.block_lt_of_cell? _ _ (hHeld.2.2.2.2.2.2.2.2.2.2.1))).trans (hHeld.2.2.2.2.2.2.2.2.2.2.1)
                    have HS11_ := (hb.cell (World.block_lt_of_cell? _ _ (hHeld.2.2.2.2.2.2.2.2.2.2.2.1))).trans (hHeld.2.2.2.2.2.2.2.2.2.2.2.1)
                    have HS12_ := (hb.cell (World.block_lt_of_cell? _ _ (hHeld.2.2.2.2.2.2.2.2.2.2.2.2.1))).trans (hHeld.2.2.2.2.2.2.2.2.2.2.2.2.1)
                    have HS13_ := (hb.cell (World.block_lt_of_cell? _ _ (hHeld.2.2.2.2.2.2.2.2.2.2.2.2.2.1))).trans (hHeld.2.2.2.2.2.2.2.2.2.2.2.2.2.1)
                    have HS14_ := (hb.cell (World.block_lt_of_cell? _ _ (hHeld.2.2.2.2.2.2.2.2.2.2.2.2.2.2.1))).trans (hHeld.2.2.2.2.2.2.2.2.2.2.2.2.2.2.1)
                    have HS15_ := (hb.cell (World.block_lt_of_cell? _ _ (hHeld.2.2.2.2.2.2.2.2.2.2.2.2.2.2.2))).trans (hHeld.2.2.2.2.2.2.2.2.2.2.2.2.2.2.2)
                    refine ⟨_, rfl, ?_⟩
                    replace HO_3 := am (Kd.R_below (rB HO_3.out) hb)
                    replace HO_8 := am (Kd.R_below (rB HO_8.out) hb)
                    replace BK701 := am (blk_below (bB BK701.out) hb)
                    replace HB := am (below_step (sB HB.out) hb)
                    (try clear hb)
                    (try clear hb2)
                    (try clear hk)
                    (try clear hi)
                    refine hK.out _ _ ⟨HS0_, HS1_, HS2_, HS3_, HS4_, HS5_, HS6_, HS7_, HS8_, HS9_, HS10_, HS11_, HS12_, HS13_, HS14_, HS15_⟩ (fun hHeld => ?_)
                    clear hK K
                    refine norm_ (a' := ?_) ?_ ?_
                    rotate_left
                    ·show Act.put _ (some 136) _ = _
                     simp only [Act.put, qa, qb, qc, i64_w, i32_w]
                     rfl
                    refine pure_ (i := 18) (N := some 137) (v := ?_) (a' := ?_) #[o,o,o,o,o,o,o,o,o,o,o,o,o,o,o,o,o,o,o,z,z] rfl rfl (any_of HT_.out (by kernel_rfl)) (fun _ _ _ h => h) (Or.inl ⟨by rfl, ?_⟩) ?_ ?_
                    rotate_left
                    ·intro w'
                     go_simp
                     with_reducible rfl
                    rotate_left
                    ·simp only [Act.put, qa, qb, qc, i64_w, i32_w]
                     rfl
                    refine pure_ (i := 19) (N := some 138) (v := ?_) (a' := ?_) #[o,o,o,o,o,o,o,o,o,o,o,o,o,o,o,o,o,o,o,o,z] rfl rfl (any_of HT_.out (by kernel_rfl)) (fun _ _ _ h => h) (Or.inl ⟨by rfl, ?_⟩) ?_ ?_
                    rotate_left
                    ·intro w'
                     go_simp
                     with_reducible rfl
                    rotate_left
                    ·simp only [Act.put, qa, qb, qc, i64_w, i32_w]
                     rfl
                    refine pure_ (i := 20) (N := some 2) (v := ?_) (a' := ?_) #[o,o,o,o,o,o,o,o,o,o,o,o,o,o,o,o,o,o,o,o,o] rfl rfl (any_of HT_.out (by kernel_rfl)) (fun _ _ _ h => h) (Or.inl ⟨by rfl, ?_⟩) ?_ ?_
                    rotate_left
                    ·intro w'
                     go_simp
                     with_reducible rfl
                    rotate_left
                    ·simp only [Act.put, qa, qb, qc, i64_w, i32_w]
                     rfl
                    refine done_ (done_of HT_.out (by kernel_rfl)) ?_
                    try go_wp2
                    go_ret
                    exact ⟨by first | rfl | (simp [errW_none, errW_some] <;> rfl) | (simp [*, errW_none, errW_some] <;> rfl), sB HB.out⟩
                   ·rw [if_neg c96] at H
                    exact absurd H (by simp)
                  ·rw [if_neg c95] at H
                   exact absurd H (by simp)
                 ·rw [if_neg c94] at H
                  exact absurd H (by simp)
                ·rw [if_neg c93] at H
                 exact absurd H (by simp)
              ·rw [if_neg c87] at H
               have c87b0 : ((decide (t725 < 0)) == (decide (t702 < 0))) = false := by simpa using c87
               (try (have c87b1 : decide ((decide (t725 < 0)) = (decide (t702 < 0))) = false := by simpa using c87))
               (try (have c87b2 : ((decide (t725 < 0)) == (decide (t702 < 0))) = false := by simpa using c87))
               (try (have c87b3 : ¬ ((decide (t725 < 0)) = (decide (t702 < 0))) := by simpa using c87))
               clear c87
               exact absurd ((Option.some.inj H).trans HRT.out) (by decide)

/-- THE ONE PURE STATEMENT of laws_FnDecided: yours. -/
def laws_FnDecided.Pure : Prop := ∀ (l0 : List Int), l0.length ≤ maxLen → l0.length * 1 ≤ 140737488351232 → (∀ x ∈ l0, (Lit.int .u8 x).wf = true) → ∃ k, laws_FnDecided.f k l0 = some true
theorem laws_FnDecided.walk (P : laws_FnDecided.Pure) (a0 : Option Addr) (len0 cap0 : Nat) (z0 : List Int) (w : World) (w0 : (a0 = none ∧ len0 = 0 ∧ cap0 = 0 ∧ z0 = []) ∨ ∃ x, a0 = some x ∧ len0 ≤ cap0 ∧ cap0 ≤ maxLen ∧ z0.length = cap0 ∧ (∀ i, i < z0.length → w.cell? (x.add i) = some (.int .u8 (z0.getD i 0))) ∧ ∀ n ∈ z0, (Lit.int .u8 n).wf = true) (y0 : len0 * 1 ≤ 140737488351232) :
  Calls Try.prog 5 #[.slice a0 len0 cap0] w fun e w' => e = .returned (.bool true) ∧ Below w.heap.size w w' := by
 obtain ⟨l0, rfl, hr0, hm0, hw0, hc0⟩ := ReadsInt.ofRowC w0
 obtain ⟨k, h⟩ := P l0 hm0 y0 hw0
 refine (laws_FnDecided.calls k _ _ l0 true w (Kd.C_of_reads (d := (0 : Int)) (h1 := fun _ => rfl) hr0) hc0 h rfl).mono ?_
 rintro e w' ⟨rfl, hd⟩
 exact ⟨rfl, hd⟩

end Go.Proofs.Ytepndcpncndjdaa.QS
