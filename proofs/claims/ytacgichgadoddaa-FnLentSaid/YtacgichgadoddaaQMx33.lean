/- Go functions as Lean functions, each with its walk; printed by a program of this session (a scratch copy of print.py that follows nested field addresses and tells a law for the answer true). -/
import Derived.Test.YtacgichgadoddaaQMx0
import Derived.Test.YtacgichgadoddaaQMx12
import Derived.Test.YtacgichgadoddaaQMx13
import Derived.Test.YtacgichgadoddaaQMx14
import Derived.Test.YtacgichgadoddaaQMx30
import Derived.Test.YtacgichgadoddaaQMx31
import Derived.Test.YtacgichgadoddaaQMx32
import Derived.Test.YtacgichgadoddaaQMx4
import Derived.Test.YtacgichgadoddaaQMx8
import Derived.Test.YtacgichgadoddaaQMxM0
namespace Go.Proofs.Ytacgichgadoddaa.QM
open Go.RowKit Go.Proofs.YtacgichgadoddaaW.PrintWords Go.Proofs.YtacgichgadoddaaW.PrintLast Go.Proofs.YtacgichgadoddaaW.PrintMore Go.Proofs.Ytacgichgadoddaa.Short
attribute [local go_sem] max2_int min2_int max_two min_two max_three min_three max_four min_four   -- for this text's walks alone
set_option linter.unusedVariables false
set_option linter.unusedSimpArgs false

/-! ### laws_FnLent: function 8 -/
mutual
def laws_FnLent.j0 : Nat → Int → Int → List (S48) → Bool → Int → Int → Option (Bool)
  | 0, _, _, _, _, _, _ => none
  | k + 1, x4, x6, x7, x51, x408000, x408001 => if x51 = true then (some false) else ((impl_EndLending.f k x7 x408000 x408001).bind fun t414 => (laws_FnLent.l0 k x4 x6 x7 t414 0 x408000 x408001))
def laws_FnLent.l0 : Nat → Int → Int → List (S48) → List (S48) → Int → Int → Int → Option (Bool)
  | 0, _, _, _, _, _, _, _ => none
  | k + 1, x4, x6, x7, x9, x10, x408000, x408001 => if x10 < (x9.length : Int) then (if 0 ≤ x10 then ((impl_IsLent.f ((rd_T48 x9 x10).f0) ((rd_T48 x9 x10).f1.f0) ((rd_T48 x9 x10).f1.f1) ((rd_T48 x9 x10).f2) ((rd_T48 x9 x10).f3) ((rd_T48 x9 x10).f4) ((rd_T48 x9 x10).f5)).bind fun t418 => (if t418 = true then ((impl_MatchSite.f ((rd_T48 x9 x10).f1.f0) ((rd_T48 x9 x10).f1.f1) x408000 x408001).bind fun t420 => (if t420 = true then (some false) else (laws_FnLent.l0 k x4 x6 x7 x9 (wrap64 (x10 + 1)) x408000 x408001))) else (laws_FnLent.l0 k x4 x6 x7 x9 (wrap64 (x10 + 1)) x408000 x408001))) else (none)) else ((impl_LendGrants.f x4 x408000 x408001 x6).bind fun t421 => (laws_FnLent.l1 k x4 x6 x7 t421 0 x408000 x408001))
def laws_FnLent.l1 : Nat → Int → Int → List (S48) → List (S48) → Int → Int → Int → Option (Bool)
  | 0, _, _, _, _, _, _, _ => none
  | k + 1, x4, x6, x7, x11, x12, x408000, x408001 => if x12 < (x11.length : Int) then (if 0 ≤ x12 then ((impl_IsLent.f ((rd_T48 x11 x12).f0) ((rd_T48 x11 x12).f1.f0) ((rd_T48 x11 x12).f1.f1) ((rd_T48 x11 x12).f2) ((rd_T48 x11 x12).f3) ((rd_T48 x11 x12).f4) ((rd_T48 x11 x12).f5)).bind fun t425 => (if t425 = true then ((impl_Covers.f ((rd_T48 x11 x12).f0) ((rd_T48 x11 x12).f1.f0) ((rd_T48 x11 x12).f1.f1) ((rd_T48 x11 x12).f2) ((rd_T48 x11 x12).f3) ((rd_T48 x11 x12).f4) ((rd_T48 x11 x12).f5) x4 x408000 x408001 ((rd_T48 x11 x12).f2) (wrap64 ((wrap64 (x6 + 5)) + 1)) true).bind fun t428 => (if t428 = true then (some false) else ((impl_Covers.f ((rd_T48 x11 x12).f0) ((rd_T48 x11 x12).f1.f0) ((rd_T48 x11 x12).f1.f1) ((rd_T48 x11 x12).f2) ((rd_T48 x11 x12).f3) ((rd_T48 x11 x12).f4) ((rd_T48 x11 x12).f5) x4 x408000 (Int.tmod (wrap64 (x408001 + 1)) 10) ((rd_T48 x11 x12).f2) x6 true).bind fun t431 => (if t431 = true then (some false) else (laws_FnLent.l1 k x4 x6 x7 x11 (wrap64 (x12 + 1)) x408000 x408001))))) else (some false))) else (none)) else (if (x11.length : Int) = 2 then (some (decide ((x7.length : Int) ≤ 16))) else (some false))
end
def laws_FnLent.f (k : Nat) (l0 : List Int) : Option (Bool) := (laws_big.f l0).bind fun t399 => (if t399 = true then (some true) else ((spec_DrawLendTo.f k l0).bind fun bt400 => ((impl_LendTo.f k bt400.1 bt400.2.1 bt400.2.2.1 bt400.2.2.2.1 bt400.2.2.2.2).bind fun bt408 => (if bt408.2 = true then ((impl_IsAllowed.f k bt408.1 bt400.2.1 bt400.2.2.1 bt400.2.2.2.1 1 bt400.2.2.2.2 false).bind fun t412 => (if t412 = true then ((impl_IsAllowed.f k bt408.1 bt400.2.1 bt400.2.2.1 bt400.2.2.2.1 2 (wrap64 (bt400.2.2.2.2 + 5)) false).bind fun t413 => (laws_FnLent.j0 k bt400.2.1 bt400.2.2.2.2 bt408.1 (!t413) bt400.2.2.1 bt400.2.2.2.1)) else (laws_FnLent.j0 k bt400.2.1 bt400.2.2.2.2 bt408.1 true bt400.2.2.1 bt400.2.2.2.1))) else (some ((bt408.1.length : Int) == (bt400.1.length : Int)))))))
theorem laws_FnLent.mono_l : ∀ k, (∀ y0 y1 y2 y3 y4 y5, LeO (laws_FnLent.j0 k y0 y1 y2 y3 y4 y5) (laws_FnLent.j0 (k + 1) y0 y1 y2 y3 y4 y5)) ∧ (∀ y0 y1 y2 y3 y4 y5 y6, LeO (laws_FnLent.l0 k y0 y1 y2 y3 y4 y5 y6) (laws_FnLent.l0 (k + 1) y0 y1 y2 y3 y4 y5 y6)) ∧ (∀ y0 y1 y2 y3 y4 y5 y6, LeO (laws_FnLent.l1 k y0 y1 y2 y3 y4 y5 y6) (laws_FnLent.l1 (k + 1) y0 y1 y2 y3 y4 y5 y6))
  | 0 => ⟨fun _ _ _ _ _ _ r h => by simp [laws_FnLent.j0] at h, fun _ _ _ _ _ _ _ r h => by simp [laws_FnLent.l0] at h, fun _ _ _ _ _ _ _ r h => by simp [laws_FnLent.l1] at h⟩
  | k + 1 => by
    obtain ⟨ih0, ih1, ih2⟩ := laws_FnLent.mono_l k
    refine ⟨?_, ?_, ?_⟩
    · intro y0 y1 y2 y3 y4 y5
      unfold laws_FnLent.j0
      repeat' first
      | (with_reducible exact ih0 _ _ _ _ _ _)
      | (with_reducible exact ih1 _ _ _ _ _ _ _)
      | (with_reducible exact ih2 _ _ _ _ _ _ _)
      | (with_reducible exact impl_EndLending.mono _ _ _ _)
      | (with_reducible exact impl_IsAllowed.mono _ _ _ _ _ _ _ _)
      | (with_reducible exact impl_LendTo.mono _ _ _ _ _ _)
      | (with_reducible exact spec_DrawLendTo.mono _ _)
      | (with_reducible exact LeO.refl _)
      | (with_reducible exact LeO.none _)
      | (with_reducible refine LeO.ite ?_ ?_)
      | (with_reducible refine LeO.bind ?_ (fun _ => ?_))
      | exact ih0 _ _ _ _ _ _
      | exact ih1 _ _ _ _ _ _ _
      | exact ih2 _ _ _ _ _ _ _
      | exact impl_EndLending.mono _ _ _ _
      | exact impl_IsAllowed.mono _ _ _ _ _ _ _ _
      | exact impl_LendTo.mono _ _ _ _ _ _
      | exact spec_DrawLendTo.mono _ _
      | exact LeO.none _
      | refine LeO.ite ?_ ?_
      | refine LeO.bind ?_ (fun _ => ?_)
    · intro y0 y1 y2 y3 y4 y5 y6
      unfold laws_FnLent.l0
      repeat' first
      | (with_reducible exact ih0 _ _ _ _ _ _)
      | (with_reducible exact ih1 _ _ _ _ _ _ _)
      | (with_reducible exact ih2 _ _ _ _ _ _ _)
      | (with_reducible exact impl_EndLending.mono _ _ _ _)
      | (with_reducible exact impl_IsAllowed.mono _ _ _ _ _ _ _ _)
      | (with_reducible exact impl_LendTo.mono _ _ _ _ _ _)
      | (with_reducible exact spec_DrawLendTo.mono _ _)
      | (with_reducible exact LeO.refl _)
      | (with_reducible exact LeO.none _)
      | (with_reducible refine LeO.ite ?_ ?_)
      | (with_reducible refine LeO.bind ?_ (fun _ => ?_))
      | exact ih0 _ _ _ _ _ _
      | exact ih1 _ _ _ _ _ _ _
      | exact ih2 _ _ _ _ _ _ _
      | exact impl_EndLending.mono _ _ _ _
      | exact impl_IsAllowed.mono _ _ _ _ _ _ _ _
      | exact impl_LendTo.mono _ _ _ _ _ _
      | exact spec_DrawLendTo.mono _ _
      | exact LeO.none _
      | refine LeO.ite ?_ ?_
      | refine LeO.bind ?_ (fun _ => ?_)
    · intro y0 y1 y2 y3 y4 y5 y6
      unfold laws_FnLent.l1
      repeat' first
      | (with_reducible exact ih0 _ _ _ _ _ _)
      | (with_reducible exact ih1 _ _ _ _ _ _ _)
      | (with_reducible exact ih2 _ _ _ _ _ _ _)
      | (with_reducible exact impl_EndLending.mono _ _ _ _)
      | (with_reducible exact impl_IsAllowed.mono _ _ _ _ _ _ _ _)
      | (with_reducible exact impl_LendTo.mono _ _ _ _ _ _)
      | (with_reducible exact spec_DrawLendTo.mono _ _)
      | (with_reducible exact LeO.refl _)
      | (with_reducible exact LeO.none _)
      | (with_reducible refine LeO.ite ?_ ?_)
      | (with_reducible refine LeO.bind ?_ (fun _ => ?_))
      | exact ih0 _ _ _ _ _ _
      | exact ih1 _ _ _ _ _ _ _
      | exact ih2 _ _ _ _ _ _ _
      | exact impl_EndLending.mono _ _ _ _
      | exact impl_IsAllowed.mono _ _ _ _ _ _ _ _
      | exact impl_LendTo.mono _ _ _ _ _ _
      | exact spec_DrawLendTo.mono _ _
      | exact LeO.none _
      | refine LeO.ite ?_ ?_
      | refine LeO.bind ?_ (fun _ => ?_)
theorem laws_FnLent.mono : ∀ a0 k, LeO (laws_FnLent.f k a0) (laws_FnLent.f (k + 1) a0) := by
  intro a0 k
  obtain ⟨ih0, ih1, ih2⟩ := laws_FnLent.mono_l k
  unfold laws_FnLent.f
  repeat' first
      | (with_reducible exact ih0 _ _ _ _ _ _)
      | (with_reducible exact ih1 _ _ _ _ _ _ _)
      | (with_reducible exact ih2 _ _ _ _ _ _ _)
      | (with_reducible exact impl_EndLending.mono _ _ _ _)
      | (with_reducible exact impl_IsAllowed.mono _ _ _ _ _ _ _ _)
      | (with_reducible exact impl_LendTo.mono _ _ _ _ _ _)
      | (with_reducible exact spec_DrawLendTo.mono _ _)
      | (with_reducible exact LeO.refl _)
      | (with_reducible exact LeO.none _)
      | (with_reducible refine LeO.ite ?_ ?_)
      | (with_reducible refine LeO.bind ?_ (fun _ => ?_))
      | exact ih0 _ _ _ _ _ _
      | exact ih1 _ _ _ _ _ _ _
      | exact ih2 _ _ _ _ _ _ _
      | exact impl_EndLending.mono _ _ _ _
      | exact impl_IsAllowed.mono _ _ _ _ _ _ _ _
      | exact impl_LendTo.mono _ _ _ _ _ _
      | exact spec_DrawLendTo.mono _ _
      | exact LeO.none _
      | refine LeO.ite ?_ ?_
      | refine LeO.bind ?_ (fun _ => ?_)
def laws_FnLent.T13 : Bool × List (List Nat × List Nat) := (true, [([], []), ([], []), ([0, 1], [0, 1]), ([2], [2]), ([3], [3]), ([4, 4], [4]), ([5], [5]), ([5], [5]), ([6, 7, 5], [5, 6, 7]), ([8, 5], [5, 8]), ([9, 5], [5, 9]), ([5], [5]), ([10, 11, 5, 5], [5, 10, 11]), ([5, 12], [5, 12])])
def laws_FnLent.B13 : List Nat := [0, 0, 3, 7, 15, 31, 63, 63, 255, 511, 1023, 63, 4095, 8191]
theorem laws_FnLent.tab13 : rtab .any (opsOf Try.f8 13) = laws_FnLent.T13 := by kernel_rfl
theorem laws_FnLent.bits13 : waitsOk laws_FnLent.T13.2 laws_FnLent.B13 = true := by kernel_rfl
def laws_FnLent.T19 : Bool × List (List Nat × List Nat) := (true, [([], []), ([], []), ([0, 1], [0, 1]), ([2], [2]), ([3], [3]), ([4], [4]), ([5, 4], [5]), ([6], [6]), ([6], [6]), ([7, 8, 6], [6, 7, 8]), ([9, 6], [6, 9]), ([6], [6]), ([6], [6]), ([6], [6]), ([6], [6]), ([13, 14, 6], [6, 13, 14]), ([15, 6], [6, 15]), ([16, 6], [6, 16]), ([6], [6]), ([18, 6], [6, 18]), ([19, 6], [6, 19]), ([10, 11, 12, 17, 20, 6, 6], [6, 10, 11, 12, 17, 20]), ([6, 21], [6, 21]), ([22, 21], [22]), ([23], [23]), ([23], [23]), ([24, 25, 23], [23, 24, 25]), ([26, 23], [23, 26]), ([23], [23]), ([23], [23]), ([29, 23], [23, 29]), ([23], [23]), ([31, 23], [23, 31]), ([32, 23], [23, 32]), ([33, 23], [23, 33]), ([30, 34, 23], [23, 30, 34]), ([23], [23]), ([23], [23]), ([36, 37, 23], [23, 36, 37]), ([38, 23], [23, 38]), ([39, 23], [23, 39]), ([23], [23]), ([27, 28, 35, 40, 41, 23, 23], [23, 27, 28, 35, 40, 41]), ([23, 42], [23, 42])])
def laws_FnLent.B19 : List Nat := [0, 0, 3, 7, 15, 31, 63, 127, 127, 511, 1023, 127, 127, 127, 127, 24703, 57471, 123007, 127, 262271, 786559, 2097151, 4194303, 8388607, 16777215, 16777215, 67108863, 134217727, 16777215, 16777215, 553648127, 16777215, 2164260863, 6459228159, 15049162751, 33839644671, 16777215, 16777215, 206175207423, 481053114367, 1030808928255, 16777215, 4398046511103, 8796093022207]
theorem laws_FnLent.tab19 : rtab .any (opsOf Try.f8 19) = laws_FnLent.T19 := by kernel_rfl
theorem laws_FnLent.bits19 : waitsOk laws_FnLent.T19.2 laws_FnLent.B19 = true := by kernel_rfl
set_option maxHeartbeats 8000000 in
set_option maxRecDepth 100000 in
theorem laws_FnLent.calls (k : Nat) (A0 : Option Addr) (c0 : Nat) (l0 : List Int) (r : Bool) (w : World) (hr0 : Kd.C (Kd.int .u8) w A0 l0.length l0) (hc0 : l0.length ≤ c0) (h : laws_FnLent.f k l0 = some r) (hr_ : r = true) :
    Calls Try.prog 8 #[.slice A0 l0.length c0] w fun e w' => e = .returned (.bool r) ∧ Below w.heap.size w w' := by
  have HRT := Aside0.mk hr_
  clear hr_
  have hu33 := Try.underlying33
  have hu48 := Try.underlying48
  have hu32 := Try.underlying32
  have HR0 := Aside0.mk hr0
  have HC0 := Aside0.mk hc0
  clear hr0 hc0
  have HB := am (Below.refl w.heap.size w)
  have H : ((laws_big.f l0).bind fun t399 => (if t399 = true then (some true) else ((spec_DrawLendTo.f k l0).bind fun bt400 => ((impl_LendTo.f k bt400.1 bt400.2.1 bt400.2.2.1 bt400.2.2.2.1 bt400.2.2.2.2).bind fun bt408 => (if bt408.2 = true then ((impl_IsAllowed.f k bt408.1 bt400.2.1 bt400.2.2.1 bt400.2.2.2.1 1 bt400.2.2.2.2 false).bind fun t412 => (if t412 = true then ((impl_IsAllowed.f k bt408.1 bt400.2.1 bt400.2.2.1 bt400.2.2.2.1 2 (wrap64 (bt400.2.2.2.2 + 5)) false).bind fun t413 => (laws_FnLent.j0 k bt400.2.1 bt400.2.2.2.2 bt408.1 (!t413) bt400.2.2.1 bt400.2.2.2.1)) else (laws_FnLent.j0 k bt400.2.1 bt400.2.2.2.2 bt408.1 true bt400.2.2.1 bt400.2.2.2.1))) else (some ((bt408.1.length : Int) == (bt400.1.length : Int)))))))) = some r := h
  clear h
  replace H := Option.bind_eq_some_iff.mp H
  obtain ⟨t399, A20, H⟩ := H
  replace H : (if t399 = true then (some true) else ((spec_DrawLendTo.f k l0).bind fun bt400 => ((impl_LendTo.f k bt400.1 bt400.2.1 bt400.2.2.1 bt400.2.2.2.1 bt400.2.2.2.2).bind fun bt408 => (if bt408.2 = true then ((impl_IsAllowed.f k bt408.1 bt400.2.1 bt400.2.2.1 bt400.2.2.2.1 1 bt400.2.2.2.2 false).bind fun t412 => (if t412 = true then ((impl_IsAllowed.f k bt408.1 bt400.2.1 bt400.2.2.1 bt400.2.2.2.1 2 (wrap64 (bt400.2.2.2.2 + 5)) false).bind fun t413 => (laws_FnLent.j0 k bt400.2.1 bt400.2.2.2.2 bt408.1 (!t413) bt400.2.2.1 bt400.2.2.2.1)) else (laws_FnLent.j0 k bt400.2.1 bt400.2.2.2.2 bt408.1 true bt400.2.2.1 bt400.2.2.2.1))) else (some ((bt408.1.length : Int) == (bt400.1.length : Int))))))) = some r := H
  have A2 := Aside0.mk A20
  clear A20
  by_cases c3 : t399 = true
  · subst c3
    have H1 : (some true) = some r := by rw [if_pos rfl] at H; exact H
    clear H
    have H := H1
    clear H1
    obtain rfl := Option.some.inj H
    go_enter Try.func8, Try.ntmps8
    go_wp2_with (first | ((with_reducible refine gate_callee (f := 36) rfl ?_); refine goesL_ (some 14) rfl rfl Try.func36 (by kernel_rfl) rfl #[.slice A0 l0.length c0] rfl (by (try simp only [List.map_toArray, List.map_cons, List.map_nil]); first | done | rfl | (simp only [List.length_drop, List.length_take]; rfl)) ?_; (with_reducible refine (laws_big.calls _ _ l0 true _ ?side1 ?side2 A2.out).mono ?_); (case side1 => exact cB (HR0.out)); (case side2 => exact HC0.out); rintro e w' ⟨rfl, ⟨nd, rfl⟩⟩; refine ⟨_, rfl, ?_⟩))
    go_ret
    exact ⟨by first | rfl | (simp [errW_none, errW_some] <;> rfl) | (simp [*, errW_none, errW_some] <;> rfl), sB HB.out⟩
  · replace c3 := Bool.eq_false_iff.mpr c3
    subst c3
    have H1 : ((spec_DrawLendTo.f k l0).bind fun bt400 => ((impl_LendTo.f k bt400.1 bt400.2.1 bt400.2.2.1 bt400.2.2.2.1 bt400.2.2.2.2).bind fun bt408 => (if bt408.2 = true then ((impl_IsAllowed.f k bt408.1 bt400.2.1 bt400.2.2.1 bt400.2.2.2.1 1 bt400.2.2.2.2 false).bind fun t412 => (if t412 = true then ((impl_IsAllowed.f k bt408.1 bt400.2.1 bt400.2.2.1 bt400.2.2.2.1 2 (wrap64 (bt400.2.2.2.2 + 5)) false).bind fun t413 => (laws_FnLent.j0 k bt400.2.1 bt400.2.2.2.2 bt408.1 (!t413) bt400.2.2.1 bt400.2.2.2.1)) else (laws_FnLent.j0 k bt400.2.1 bt400.2.2.2.2 bt408.1 true bt400.2.2.1 bt400.2.2.2.1))) else (some ((bt408.1.length : Int) == (bt400.1.length : Int)))))) = some r := by rw [if_neg (show ¬ (false = true) by decide)] at H; exact H
    clear H
    have H := H1
    clear H1
    replace H := Option.bind_eq_some_iff.mp H
    obtain ⟨⟨t400, t403, t404, t405, t406⟩, A40, H⟩ := H
    replace H : ((impl_LendTo.f k t400 t403 t404 t405 t406).bind fun bt408 => (if bt408.2 = true then ((impl_IsAllowed.f k bt408.1 t403 t404 t405 1 t406 false).bind fun t412 => (if t412 = true then ((impl_IsAllowed.f k bt408.1 t403 t404 t405 2 (wrap64 (t406 + 5)) false).bind fun t413 => (laws_FnLent.j0 k t403 t406 bt408.1 (!t413) t404 t405)) else (laws_FnLent.j0 k t403 t406 bt408.1 true t404 t405))) else (some ((bt408.1.length : Int) == (t400.length : Int))))) = some r := H
    have A4 := Aside0.mk A40
    clear A40
    replace H := Option.bind_eq_some_iff.mp H
    obtain ⟨⟨t408, t411⟩, A50, H⟩ := H
    replace H : (if t411 = true then ((impl_IsAllowed.f k t408 t403 t404 t405 1 t406 false).bind fun t412 => (if t412 = true then ((impl_IsAllowed.f k t408 t403 t404 t405 2 (wrap64 (t406 + 5)) false).bind fun t413 => (laws_FnLent.j0 k t403 t406 t408 (!t413) t404 t405)) else (laws_FnLent.j0 k t403 t406 t408 true t404 t405))) else (some ((t408.length : Int) == (t400.length : Int)))) = some r := H
    have A5 := Aside0.mk A50
    clear A50
    by_cases c6 : t411 = true
    · subst c6
      have H1 : ((impl_IsAllowed.f k t408 t403 t404 t405 1 t406 false).bind fun t412 => (if t412 = true then ((impl_IsAllowed.f k t408 t403 t404 t405 2 (wrap64 (t406 + 5)) false).bind fun t413 => (laws_FnLent.j0 k t403 t406 t408 (!t413) t404 t405)) else (laws_FnLent.j0 k t403 t406 t408 true t404 t405))) = some r := by rw [if_pos rfl] at H; exact H
      clear H
      have H := H1
      clear H1
      have HC7 := Aside0.mk H
      clear H
      go_enter Try.func8, Try.ntmps8
      go_upto_region 7 with (first | ((with_reducible refine gate_callee (f := 36) rfl ?_); refine goesL_ (some 14) rfl rfl Try.func36 (by kernel_rfl) rfl #[.slice A0 l0.length c0] rfl (by (try simp only [List.map_toArray, List.map_cons, List.map_nil]); first | done | rfl | (simp only [List.length_drop, List.length_take]; rfl)) ?_; (with_reducible refine (laws_big.calls _ _ l0 false _ ?side1 ?side2 A2.out).mono ?_); (case side1 => exact cB (HR0.out)); (case side2 => exact HC0.out); rintro e w' ⟨rfl, ⟨nd, rfl⟩⟩; refine ⟨_, rfl, ?_⟩) | ((with_reducible refine gate_callee (f := 45) rfl ?_); refine goesL_ (some 17) rfl rfl Try.func45 (by kernel_rfl) rfl #[.slice A0 l0.length c0] rfl (by (try simp only [List.map_toArray, List.map_cons, List.map_nil]); first | done | rfl | (simp only [List.length_drop, List.length_take]; rfl)) ?_; (with_reducible refine (spec_DrawLendTo.calls k _ _ l0 t400 t403 t404 t405 t406 _ ?side1 ?side2 A4.out).mono ?_); (case side1 => exact cB (HR0.out)); (case side2 => exact HC0.out); rintro e w8 ⟨v401, rfl, ho0, hb⟩; refine ⟨_, rfl, ?_⟩; have n0_ := am (Kd.R_lower ho0 (below_size (sB HB.out))); have n1_ := am (below_step (sB HB.out) hb); clear HB; have HO402 := n0_; have HB := n1_; clear n0_ n1_; (try clear hb); (try clear hb2); (try clear hk); (try clear hi); (try clear ho0)) | ((with_reducible refine gate_dst (N := 5) rfl ?_); (try (refine gate_guard (by rfl) ?_; dsimp only)); refine box_event ?hg (N := 5) ?hd (cs := #[.int .i64 0, .int .i64 0]) (t := 33) ?hr ?_; (case hd => rfl); (case hg => rfl); (case hr => first | (go_simp; done) | (go_simp; rfl)); intro gb407 hg w9 hbox hb; have n0_ := am (Kd.R_below (rB HO402.out) hb); have q_ := hbx_ (sB HB.out) hg hb; have n1_ := q_.1; have n2_ := am (hbox); have n3_ := q_.2; have n4_ := n3_; clear HO402; clear HB; have HO402 := n0_; have HB := n1_; have BK407 := n2_; have GW407 := n3_; have GE407 := n4_; clear n0_ n1_ n2_ n3_ n4_; clear hb hbox hg; obtain ⟨hcz10_0, hcz10_1, hfz10_0, hfz10_1⟩ := blk2 BK407.out; obtain ⟨Ao11, co11, eo11⟩ := Kd.R_slice HO402.out; subst eo11) | ((with_reducible refine gate_callee (f := 31) rfl ?_); refine goesL_ (some 27) rfl rfl Try.func31 (by kernel_rfl) rfl #[.slice Ao11 t400.length co11, .int .i64 t403, .agg #[.int .i64 t404, .int .i64 t405], .int .i64 t406] rfl (by (try simp only [List.map_toArray, List.map_cons, List.map_nil]); first | done | rfl | (simp only [List.length_drop, List.length_take]; rfl)) ?_; (with_reducible refine (impl_LendTo.calls k _ _ t400 t403 t404 t405 t406 t408 true _ ?side1 ?side2 A5.out).mono ?_); (case side1 => refine (Kd.R_reads' (e := 48) (base := w.heap.size) (ok := fun k_ => True) (n := t400.length) (c := co11) ?_).2.2; exact (by (with_reducible repeat (first | apply Kd.R_alloc | apply Kd.R_drewN | apply Kd.R_drew)); exact (Kd.R_mono (Kd.R_far (p := ⟨gb407, 1, none⟩) (Kd.R_far (p := ⟨gb407, 0, none⟩) (Kd.R_types HO402.out BK407.out (by decide)) (fun _ hk => hk.2) (.int .i64 t404)) (fun _ hk => hk.2) (.int .i64 t405)) (fun _ h_ => h_.1)))); (case side2 => exact (Kd.R_reads' HO402.out).2.1); rintro e w12 ⟨v409, rfl, ho0, hb⟩; refine ⟨_, rfl, ?_⟩; have n0_ := am (Kd.R_elder' (by (with_reducible repeat (first | apply Kd.R_alloc | apply Kd.R_drewN | apply Kd.R_drew)); exact (Kd.R_mono (Kd.R_far (p := ⟨gb407, 1, none⟩) (Kd.R_far (p := ⟨gb407, 0, none⟩) (Kd.R_types HO402.out BK407.out (by decide)) (fun _ hk => hk.2) (.int .i64 t404)) (fun _ hk => hk.2) (.int .i64 t405)) (fun _ h_ => h_.1))) (Kd.R_base ho0) hb); have n1_ := am (Kd.R_lower (Kd.R_new' ho0 (Kd.R_lt (by (with_reducible repeat (first | apply Kd.R_alloc | apply Kd.R_drewN | apply Kd.R_drew)); exact (Kd.R_mono (Kd.R_far (p := ⟨gb407, 1, none⟩) (Kd.R_far (p := ⟨gb407, 0, none⟩) (Kd.R_types HO402.out BK407.out (by decide)) (fun _ hk => hk.2) (.int .i64 t404)) (fun _ hk => hk.2) (.int .i64 t405)) (fun _ h_ => h_.1))))) (below_size (sB HB.out))); have n2_ := am (blk_below (g := gb407) (o := .cells #[.int .i64 t404, .int .i64 t405] 33 (0, 0)) (by refine bB ?_; refine blk_put (cs := #[.int .i64 t404, .int .i64 0]) ?_ 1 _ rfl; refine bB ?_; refine blk_put (cs := #[.int .i64 0, .int .i64 0]) ?_ 0 _ rfl; refine bB ?_; exact BK407.out) hb); have n3_ := am (below_step (sB HB.out) hb); clear HO402; clear BK407; clear HB; have HO402 := n0_; have HO410 := n1_; have BK407 := n2_; have HB := n3_; clear n0_ n1_ n2_ n3_; (try clear hb); (try clear hb2); (try clear hk); (try clear hi); (try clear ho0)))
      (try simp only [Act.put, List.setIfInBounds_toArray, List.set_cons_zero, List.set_cons_succ])
      go_cut [51] (fun v51 wc => ∃ (kq : Nat) (x51_6 : Bool), v51 = .bool x51_6 ∧ Aside0 (laws_FnLent.j0 kq t403 t406 t408 x51_6 t404 t405 = some r) ∧ Aside0 (kq ≤ k) ∧ Aside0 (Kd.R k48 48 wc w.heap.size (fun _ => True) v409 t408) ∧ Aside0 (wc.heap[gb407]? = some (.cells #[.int .i64 t404, .int .i64 t405] 33 (0, 0))) ∧ Aside0 (Below w.heap.size w wc))
      case first =>
        have H := HC7.out
        clear HC7
        replace H := Option.bind_eq_some_iff.mp H
        obtain ⟨t412, A130, H⟩ := H
        replace H : (if t412 = true then ((impl_IsAllowed.f k t408 t403 t404 t405 2 (wrap64 (t406 + 5)) false).bind fun t413 => (laws_FnLent.j0 k t403 t406 t408 (!t413) t404 t405)) else (laws_FnLent.j0 k t403 t406 t408 true t404 t405)) = some r := H
        have A13 := Aside0.mk A130
        clear A130
        by_cases c14 : t412 = true
        · subst c14
          have H1 : ((impl_IsAllowed.f k t408 t403 t404 t405 2 (wrap64 (t406 + 5)) false).bind fun t413 => (laws_FnLent.j0 k t403 t406 t408 (!t413) t404 t405)) = some r := by rw [if_pos rfl] at H; exact H
          clear H
          have H := H1
          clear H1
          replace H := Option.bind_eq_some_iff.mp H
          obtain ⟨t413, A150, H⟩ := H
          replace H : (laws_FnLent.j0 k t403 t406 t408 (!t413) t404 t405) = some r := H
          have A15 := Aside0.mk A150
          clear A150
          have H' := Aside0.mk H
          clear H
          have hcz16_0 : w12.cell? ⟨gb407, 0, none⟩ = some (.int .i64 t404) := (blk_cell BK407.out 0).trans rfl
          have hcz16_1 : w12.cell? ⟨gb407, 1, none⟩ = some (.int .i64 t405) := (blk_cell BK407.out 1).trans rfl
          have hfz16_0 := blk_frozen BK407.out 0
          have hfz16_1 := blk_frozen BK407.out 1
          obtain ⟨Ao17, co17, eo17⟩ := Kd.R_slice HO410.out
          subst eo17
          go_wp2_with (first | ((with_reducible refine gate_callee (f := 39) rfl ?_); refine goesL_ (some 41) rfl rfl Try.func39 (by kernel_rfl) rfl #[.slice Ao17 t408.length co17, .int .i64 t403, .agg #[.int .i64 t404, .int .i64 t405], .int .i64 1, .int .i64 t406, .bool false] rfl (by (try simp only [List.map_toArray, List.map_cons, List.map_nil]); first | done | rfl | (simp only [List.length_drop, List.length_take]; rfl)) ?_; (with_reducible refine (impl_IsAllowed.calls k _ _ t408 t403 t404 t405 1 t406 false true _ ?side1 ?side2 A13.out).mono ?_); (case side1 => exact cB ((Kd.R_reads' HO410.out).2.2)); (case side2 => exact (Kd.R_reads' HO410.out).2.1); rintro e w18 ⟨rfl, hb⟩; refine ⟨_, rfl, ?_⟩; replace HO402 := am (Kd.R_below (rB HO402.out) hb); replace HO410 := am (Kd.R_below (rB HO410.out) hb); replace BK407 := am (blk_below (bB BK407.out) hb); replace HB := am (below_step (sB HB.out) hb); (try clear hb); (try clear hb2); (try clear hk); (try clear hi); obtain ⟨hcz19_0, hcz19_1, hfz19_0, hfz19_1⟩ := blk2 BK407.out) | (go_at_call 39; (with_reducible refine (impl_IsAllowed.calls k _ _ t408 t403 t404 t405 2 (wrap64 (t406 + 5)) false t413 _ ?side1 ?side2 A15.out).mono ?_); (case side1 => exact cB ((Kd.R_reads' HO410.out).2.2)); (case side2 => exact (Kd.R_reads' HO410.out).2.1); rintro e w20 ⟨rfl, hb⟩; replace HO402 := am (Kd.R_below (rB HO402.out) hb); replace HO410 := am (Kd.R_below (rB HO410.out) hb); replace BK407 := am (blk_below (bB BK407.out) hb); replace HB := am (below_step (sB HB.out) hb); (try clear hb); (try clear hb2); (try clear hk); (try clear hi)))
          go_meet
          case rel => exact ⟨_, (!t413), (by first | rfl | (simp; done) | (simp [*]; done)), H', ⟨by first | omega | exact Nat.le_refl _⟩, ⟨by (with_reducible repeat (first | apply Kd.R_alloc | apply Kd.R_drewN | apply Kd.R_drew)); exact Kd.R_mono HO410.out (fun _ hk => trivial)⟩, ⟨bB BK407.out⟩, ⟨sB HB.out⟩⟩
        · replace c14 := Bool.eq_false_iff.mpr c14
          subst c14
          have H1 : (laws_FnLent.j0 k t403 t406 t408 true t404 t405) = some r := by rw [if_neg (show ¬ (false = true) by decide)] at H; exact H
          clear H
          have H := H1
          clear H1
          have H' := Aside0.mk H
          clear H
          have hcz21_0 : w12.cell? ⟨gb407, 0, none⟩ = some (.int .i64 t404) := (blk_cell BK407.out 0).trans rfl
          have hcz21_1 : w12.cell? ⟨gb407, 1, none⟩ = some (.int .i64 t405) := (blk_cell BK407.out 1).trans rfl
          have hfz21_0 := blk_frozen BK407.out 0
          have hfz21_1 := blk_frozen BK407.out 1
          obtain ⟨Ao22, co22, eo22⟩ := Kd.R_slice HO410.out
          subst eo22
          go_wp2_with (first | ((with_reducible refine gate_callee (f := 39) rfl ?_); refine goesL_ (some 41) rfl rfl Try.func39 (by kernel_rfl) rfl #[.slice Ao22 t408.length co22, .int .i64 t403, .agg #[.int .i64 t404, .int .i64 t405], .int .i64 1, .int .i64 t406, .bool false] rfl (by (try simp only [List.map_toArray, List.map_cons, List.map_nil]); first | done | rfl | (simp only [List.length_drop, List.length_take]; rfl)) ?_; (with_reducible refine (impl_IsAllowed.calls k _ _ t408 t403 t404 t405 1 t406 false false _ ?side1 ?side2 A13.out).mono ?_); (case side1 => exact cB ((Kd.R_reads' HO410.out).2.2)); (case side2 => exact (Kd.R_reads' HO410.out).2.1); rintro e w23 ⟨rfl, hb⟩; refine ⟨_, rfl, ?_⟩; replace HO402 := am (Kd.R_below (rB HO402.out) hb); replace HO410 := am (Kd.R_below (rB HO410.out) hb); replace BK407 := am (blk_below (bB BK407.out) hb); replace HB := am (below_step (sB HB.out) hb); (try clear hb); (try clear hb2); (try clear hk); (try clear hi)))
          go_meet
          case rel => exact ⟨_, (true), (by first | rfl | (simp; done) | (simp [*]; done)), H', ⟨by first | omega | exact Nat.le_refl _⟩, ⟨by (with_reducible repeat (first | apply Kd.R_alloc | apply Kd.R_drewN | apply Kd.R_drew)); exact Kd.R_mono HO410.out (fun _ hk => trivial)⟩, ⟨bB BK407.out⟩, ⟨sB HB.out⟩⟩
      case rest =>
        clear HC7
        try clear c1
        try clear p2
        try clear c3
        try clear c4
        try clear c6
        try clear p6
        try clear c8
        try clear c14
        try clear hcz10_0 hcz10_1
        try clear hcz16_0 hcz16_1
        try clear hcz19_0 hcz19_1
        try clear hcz21_0 hcz21_1
        try clear hfz10_0 hfz10_1
        try clear hfz16_0 hfz16_1
        try clear hfz19_0 hfz19_1
        try clear hfz21_0 hfz21_1
        obtain ⟨kq, x51_6, rfl, HA, HJ6, HO_7, BK407, HB⟩ := hcut
        cases kq with
        | zero => exact absurd HA.out (by simp [laws_FnLent.j0])
        | succ kj6 =>
          have H := HA.out
          clear HA
          simp only [laws_FnLent.j0] at H
          by_cases c24 : x51_6 = true
          · subst c24
            have H1 : (some false) = some r := by rw [if_pos rfl] at H; exact H
            clear H
            have H := H1
            clear H1
            exact absurd ((Option.some.inj H).trans HRT.out) (by decide)
          · replace c24 := Bool.eq_false_iff.mpr c24
            subst c24
            have H1 : ((impl_EndLending.f kj6 t408 t404 t405).bind fun t414 => (laws_FnLent.l0 kj6 t403 t406 t408 t414 0 t404 t405)) = some r := by rw [if_neg (show ¬ (false = true) by decide)] at H; exact H
            clear H
            have H := H1
            clear H1
            replace H := Option.bind_eq_some_iff.mp H
            obtain ⟨t414, A250, H⟩ := H
            replace H : (laws_FnLent.l0 kj6 t403 t406 t408 t414 0 t404 t405) = some r := H
            have A25 := Aside0.mk A250
            clear A250
            have H' := Aside0.mk H
            clear H
            have hcz26_0 : wc.cell? ⟨gb407, 0, none⟩ = some (.int .i64 t404) := (blk_cell BK407.out 0).trans rfl
            have hcz26_1 : wc.cell? ⟨gb407, 1, none⟩ = some (.int .i64 t405) := (blk_cell BK407.out 1).trans rfl
            have hfz26_0 := blk_frozen BK407.out 0
            have hfz26_1 := blk_frozen BK407.out 1
            obtain ⟨Ao27, co27, eo27⟩ := Kd.R_slice HO_7.out
            subst eo27
            go_wp2_with (first | ((with_reducible refine gate_callee (f := 46) rfl ?_); refine goesL_ (some 54) rfl rfl Try.func46 (by kernel_rfl) rfl #[.slice Ao27 t408.length co27, .agg #[.int .i64 t404, .int .i64 t405]] rfl (by (try simp only [List.map_toArray, List.map_cons, List.map_nil]); first | done | rfl | (simp only [List.length_drop, List.length_take]; rfl)) ?_; (with_reducible refine (impl_EndLending.calls kj6 _ _ t408 t404 t405 t414 _ ?side1 ?side2 A25.out).mono ?_); (case side1 => exact cB ((Kd.R_reads' HO_7.out).2.2)); (case side2 => exact (Kd.R_reads' HO_7.out).2.1); rintro e w28 ⟨v415, rfl, ho0, hb⟩; refine ⟨_, rfl, ?_⟩; have n0_ := am (Kd.R_elder' (rB HO_7.out) (Kd.R_base ho0) hb); have n1_ := am (Kd.R_lower (Kd.R_new' ho0 (Kd.R_lt (rB HO_7.out))) (below_size (sB HB.out))); have n2_ := am (blk_below (bB BK407.out) hb); have n3_ := am (below_step (sB HB.out) hb); clear HO_7; clear BK407; clear HB; have HO_7 := n0_; have HO416 := n1_; have BK407 := n2_; have HB := n3_; clear n0_ n1_ n2_ n3_; (try clear hb); (try clear hb2); (try clear hk); (try clear hi); (try clear ho0)))
            go_loopg [10] kj6 (fun kq v10 w' => ∃ (x10_2 : Int), v10 = .int .i64 x10_2 ∧ Aside0 (laws_FnLent.l0 kq t403 t406 t408 t414 x10_2 t404 t405 = some r) ∧ Aside0 (kq ≤ kj6) ∧ Aside0 (Kd.R k48 48 w' w.heap.size (fun k_ => some k_ ≠ (v415 : Value).ownBlock) (.slice Ao27 t408.length co27) t408) ∧ Aside0 (Kd.R k48 48 w' w.heap.size (fun k_ => some k_ ≠ ((.slice Ao27 t408.length co27) : Value).ownBlock) v415 t414) ∧ Aside0 (w'.heap[gb407]? = some (.cells #[.int .i64 t404, .int .i64 t405] 33 (0, 0))) ∧ Aside0 (Below w.heap.size w w'))
            case atStart => exact ⟨(0), (by first | rfl | (simp; done) | (simp [*]; done)), H', ⟨Nat.le_refl _⟩, ⟨by (with_reducible repeat (first | apply Kd.R_alloc | apply Kd.R_drewN | apply Kd.R_drew)); exact Kd.R_mono HO_7.out (fun _ hk => hk.2)⟩, ⟨by (with_reducible repeat (first | apply Kd.R_alloc | apply Kd.R_drewN | apply Kd.R_drew)); exact Kd.R_mono HO416.out (fun _ hk => hk.2)⟩, ⟨bB BK407.out⟩, ⟨sB HB.out⟩⟩
            case round =>
              clear H'
              try clear c1
              try clear c2
              try clear p2
              try clear c3
              try clear c4
              try clear c6
              try clear p6
              try clear c8
              try clear c14
              try clear c24
              try clear hcz10_0 hcz10_1
              try clear hcz16_0 hcz16_1
              try clear hcz19_0 hcz19_1
              try clear hcz21_0 hcz21_1
              try clear hcz26_0 hcz26_1
              try clear hfz10_0 hfz10_1
              try clear hfz16_0 hfz16_1
              try clear hfz19_0 hfz19_1
              try clear hfz21_0 hfz21_1
              try clear hfz26_0 hfz26_1
              try clear p2
              try clear p6
              obtain ⟨x10_2, rfl, HA, HK2, HO_7, HO_9, BK407, HB⟩ := hrel
              cases gk with
              | zero => exact absurd HA.out (by simp [laws_FnLent.l0])
              | succ k2 =>
                have H := HA.out
                clear HA
                simp only [laws_FnLent.l0] at H
                by_cases c29 : x10_2 < (t414.length : Int)
                · rw [if_pos c29] at H
                  have c29b0 : decide (x10_2 < (t414.length : Int)) = true := decide_eq_true c29
                  clear c29
                  by_cases c30 : 0 ≤ x10_2
                  · rw [if_pos c30] at H
                    have c30b0 : decide (0 ≤ x10_2) = true := decide_eq_true c30
                    clear c30
                    replace H := Option.bind_eq_some_iff.mp H
                    obtain ⟨t418, A310, H⟩ := H
                    replace H : (if t418 = true then ((impl_MatchSite.f ((rd_T48 t414 x10_2).f1.f0) ((rd_T48 t414 x10_2).f1.f1) t404 t405).bind fun t420 => (if t420 = true then (some false) else (laws_FnLent.l0 k2 t403 t406 t408 t414 (wrap64 (x10_2 + 1)) t404 t405))) else (laws_FnLent.l0 k2 t403 t406 t408 t414 (wrap64 (x10_2 + 1)) t404 t405)) = some r := H
                    have A31 := Aside0.mk A310
                    clear A310
                    by_cases c32 : t418 = true
                    · subst c32
                      have H1 : ((impl_MatchSite.f ((rd_T48 t414 x10_2).f1.f0) ((rd_T48 t414 x10_2).f1.f1) t404 t405).bind fun t420 => (if t420 = true then (some false) else (laws_FnLent.l0 k2 t403 t406 t408 t414 (wrap64 (x10_2 + 1)) t404 t405))) = some r := by rw [if_pos rfl] at H; exact H
                      clear H
                      have H := H1
                      clear H1
                      replace H := Option.bind_eq_some_iff.mp H
                      obtain ⟨t420, A330, H⟩ := H
                      replace H : (if t420 = true then (some false) else (laws_FnLent.l0 k2 t403 t406 t408 t414 (wrap64 (x10_2 + 1)) t404 t405)) = some r := H
                      have A33 := Aside0.mk A330
                      clear A330
                      by_cases c34 : t420 = true
                      · subst c34
                        have H1 : (some false) = some r := by rw [if_pos rfl] at H; exact H
                        clear H
                        have H := H1
                        clear H1
                        exact absurd ((Option.some.inj H).trans HRT.out) (by decide)
                      · replace c34 := Bool.eq_false_iff.mpr c34
                        subst c34
                        have H1 : (laws_FnLent.l0 k2 t403 t406 t408 t414 (wrap64 (x10_2 + 1)) t404 t405) = some r := by rw [if_neg (show ¬ (false = true) by decide)] at H; exact H
                        clear H
                        have H := H1
                        clear H1
                        have H' := Aside0.mk H
                        clear H
                        obtain ⟨Ao35, co35, eo35⟩ := Kd.R_slice HO_9.out
                        subst eo35
                        try go_wp2
                        replace HO_7 := am (Kd.R_drew HO_7.out)
                        replace HO_9 := am (Kd.R_drew HO_9.out)
                        replace BK407 := am (blk_drew BK407.out)
                        replace HB := am (below_drew1 HB.out)
                        have p417 : 0 ≤ (x10_2 : Int) := of_decide_eq_true (by first | (with_reducible assumption) | assumption)
                        have q417 : x10_2 < (t414.length : Int) := of_decide_eq_true (by first | (with_reducible assumption) | assumption)
                        obtain ⟨ad417, e417, hx417_0, hx417_1, hx417_2, hx417_3, hx417_4, hx417_5, hx417_6⟩ := at_T48 (Kd.R_reads' HO_9.out).2.2 x10_2 p417 q417
                        cases e417
                        replace p417 := eq_true p417
                        replace q417 := eq_true q417
                        have p419 : 0 ≤ (x10_2 : Int) := of_decide_eq_true (by first | (with_reducible assumption) | assumption)
                        have q419 : x10_2 < (t414.length : Int) := of_decide_eq_true (by first | (with_reducible assumption) | assumption)
                        obtain ⟨ad419, e419, hx419_0, hx419_1, hx419_2, hx419_3, hx419_4, hx419_5, hx419_6⟩ := at_T48 (Kd.R_reads' HO_9.out).2.2 x10_2 p419 q419
                        obtain rfl : ad417 = ad419 := (by injection e419)
                        replace p419 := eq_true p419
                        replace q419 := eq_true q419
                        refine start_ (n := 14) (S := fun w' => w'.cell? ⟨gb407, 0, none⟩ = some (.int .i64 t404) ∧ w'.cell? ⟨gb407, 1, none⟩ = some (.int .i64 t405) ∧ w'.cell? (ad417.add ((x10_2).toNat * 7)) = some (.int .i64 ((rd_T48 t414 x10_2).f0)) ∧ w'.cell? ⟨(ad417.add ((x10_2).toNat * 7)).block, (ad417.add ((x10_2).toNat * 7)).off + 1, none⟩ = some (.int .i64 ((rd_T48 t414 x10_2).f1.f0)) ∧ w'.cell? ⟨(ad417.add ((x10_2).toNat * 7)).block, (ad417.add ((x10_2).toNat * 7)).off + 2, none⟩ = some (.int .i64 ((rd_T48 t414 x10_2).f1.f1)) ∧ w'.cell? ⟨(ad417.add ((x10_2).toNat * 7)).block, (ad417.add ((x10_2).toNat * 7)).off + 3, none⟩ = some (.int .i64 ((rd_T48 t414 x10_2).f2)) ∧ w'.cell? ⟨(ad417.add ((x10_2).toNat * 7)).block, (ad417.add ((x10_2).toNat * 7)).off + 4, none⟩ = some (.int .i64 ((rd_T48 t414 x10_2).f3)) ∧ w'.cell? ⟨(ad417.add ((x10_2).toNat * 7)).block, (ad417.add ((x10_2).toNat * 7)).off + 5, none⟩ = some (.int .i64 ((rd_T48 t414 x10_2).f4)) ∧ w'.cell? ⟨(ad417.add ((x10_2).toNat * 7)).block, (ad417.add ((x10_2).toNat * 7)).off + 6, none⟩ = some (.bool ((rd_T48 t414 x10_2).f5)) ∧ w'.cell? (ad417.add ((x10_2).toNat * 7)) = some (.int .i64 ((rd_T48 t414 x10_2).f0)) ∧ w'.cell? ⟨(ad417.add ((x10_2).toNat * 7)).block, (ad417.add ((x10_2).toNat * 7)).off + 1, none⟩ = some (.int .i64 ((rd_T48 t414 x10_2).f1.f0)) ∧ w'.cell? ⟨(ad417.add ((x10_2).toNat * 7)).block, (ad417.add ((x10_2).toNat * 7)).off + 2, none⟩ = some (.int .i64 ((rd_T48 t414 x10_2).f1.f1)) ∧ w'.cell? ⟨(ad417.add ((x10_2).toNat * 7)).block, (ad417.add ((x10_2).toNat * 7)).off + 3, none⟩ = some (.int .i64 ((rd_T48 t414 x10_2).f2)) ∧ w'.cell? ⟨(ad417.add ((x10_2).toNat * 7)).block, (ad417.add ((x10_2).toNat * 7)).off + 4, none⟩ = some (.int .i64 ((rd_T48 t414 x10_2).f3)) ∧ w'.cell? ⟨(ad417.add ((x10_2).toNat * 7)).block, (ad417.add ((x10_2).toNat * 7)).off + 5, none⟩ = some (.int .i64 ((rd_T48 t414 x10_2).f4)) ∧ w'.cell? ⟨(ad417.add ((x10_2).toNat * 7)).block, (ad417.add ((x10_2).toNat * 7)).off + 6, none⟩ = some (.bool ((rd_T48 t414 x10_2).f5))) (ds := []) #[z,z,z,z,z,z,z,z,z,z,z,z,z,z] (by kernel_rfl) rfl rfl ⟨(blk_cell BK407.out 0).trans rfl, (blk_cell BK407.out 1).trans rfl, hx417_0, hx417_1, hx417_2, hx417_3, hx417_4, hx417_5, hx417_6, hx419_0, hx419_1, hx419_2, hx419_3, hx419_4, hx419_5, hx419_6⟩ (fun hHeld => ?_); refine with_tabW laws_FnLent.tab13 laws_FnLent.bits13 (fun HT_ HW_ => ?_)
                        generalize wr.drew = w36 at HO_7 HO_9 BK407 HB hx417_0 hx417_1 hx417_2 hx417_3 hx417_4 hx417_5 hx417_6 hx419_0 hx419_1 hx419_2 hx419_3 hx419_4 hx419_5 hx419_6 hHeld ⊢
                        refine pure_ (i := 0) (N := some 61) (v := ?_) (a' := ?_) #[o,z,z,z,z,z,z,z,z,z,z,z,z,z] rfl rfl (any_of HT_.out (by kernel_rfl)) (fun _ _ _ h => h) (Or.inl ⟨by rfl, ?_⟩) ?_ ?_
                        rotate_left
                        · intro w'
                          go_simp
                          with_reducible rfl
                        rotate_left
                        · simp only [Act.put, qa, qb, qc, i64_w, i32_w]
                          rfl
                        refine pure_ (i := 1) (N := some 62) (v := ?_) (a' := ?_) #[o,o,z,z,z,z,z,z,z,z,z,z,z,z] rfl rfl (any_of HT_.out (by kernel_rfl)) (fun _ _ _ h => h) (Or.inl ⟨by rfl, ?_⟩) ?_ ?_
                        rotate_left
                        · intro w'
                          go_simp
                          with_reducible rfl
                        rotate_left
                        · simp only [Act.put, qa, qb, qc, i64_w, i32_w]
                          rfl
                        refine pure_ (i := 2) (N := some 63) (v := ?_) (a' := ?_) #[o,o,o,z,z,z,z,z,z,z,z,z,z,z] rfl rfl (any_of HT_.out (by kernel_rfl)) (fun _ _ _ h => h) (Or.inl ⟨by rfl, ?_⟩) ?_ ?_
                        rotate_left
                        · intro w'
                          go_simp
                          with_reducible rfl
                        rotate_left
                        · simp only [Act.put, qa, qb, qc, i64_w, i32_w]
                          rfl
                        refine take_ (i := 3) (N := some 64) (v := ?_) (a' := ?_) #[o,o,o,o,z,z,z,z,z,z,z,z,z,z] rfl rfl (take_ofW HT_.out HW_.out (by kernel_rfl)) (fun _ _ _ h => h) (Or.inl ⟨by rfl, ?_⟩) hHeld ?_ ?_
                        rotate_left
                        · rintro w' ⟨s0, s1, s2, s3, s4, s5, s6, s7, s8, s9, s10, s11, s12, s13, s14, s15⟩
                          go_simp
                          with_reducible rfl
                        rotate_left
                        · simp only [Act.put, qa, qb, qc, i64_w, i32_w]
                          rfl
                        refine one_ (i := 4) (N := some 65) #[o,o,o,o,o,z,z,z,z,z,z,z,z,z] rfl rfl (one_of HT_.out (by kernel_rfl)) (by decide) (fun K hK => ?_)
                        refine goes_ Try.func47 (by kernel_rfl) rfl #[.agg #[.int .i64 ((rd_T48 t414 x10_2).f0), .int .i64 ((rd_T48 t414 x10_2).f1.f0), .int .i64 ((rd_T48 t414 x10_2).f1.f1), .int .i64 ((rd_T48 t414 x10_2).f2), .int .i64 ((rd_T48 t414 x10_2).f3), .int .i64 ((rd_T48 t414 x10_2).f4), .bool ((rd_T48 t414 x10_2).f5)]] (by rfl) rfl rfl (by (try simp only [List.map_toArray, List.map_cons, List.map_nil]); first | done | rfl | (simp only [List.length_drop, List.length_take]; rfl)) ?_
                        with_reducible refine (impl_IsLent.calls ((rd_T48 t414 x10_2).f0) ((rd_T48 t414 x10_2).f1.f0) ((rd_T48 t414 x10_2).f1.f1) ((rd_T48 t414 x10_2).f2) ((rd_T48 t414 x10_2).f3) ((rd_T48 t414 x10_2).f4) ((rd_T48 t414 x10_2).f5) true _ A31.out).mono ?_
                        rintro e w37 ⟨rfl, hb⟩
                        have HS2_ := (hb.cell (World.block_lt_of_cell? _ _ (hHeld.2.2.1))).trans (hHeld.2.2.1)
                        have HS3_ := (hb.cell (World.block_lt_of_cell? _ _ (hHeld.2.2.2.1))).trans (hHeld.2.2.2.1)
                        have HS4_ := (hb.cell (World.block_lt_of_cell? _ _ (hHeld.2.2.2.2.1))).trans (hHeld.2.2.2.2.1)
                        have HS5_ := (hb.cell (World.block_lt_of_cell? _ _ (hHeld.2.2.2.2.2.1))).trans (hHeld.2.2.2.2.2.1)
                        have HS6_ := (hb.cell (World.block_lt_of_cell? _ _ (hHeld.2.2.2.2.2.2.1))).trans (hHeld.2.2.2.2.2.2.1)
                        have HS7_ := (hb.cell (World.block_lt_of_cell? _ _ (hHeld.2.2.2.2.2.2.2.1))).trans (hHeld.2.2.2.2.2.2.2.1)
                        have HS8_ := (hb.cell (World.block_lt_of_cell? _ _ (hHeld.2.2.2.2.2.2.2.2.1))).trans (hHeld.2.2.2.2.2.2.2.2.1)
                        have HS9_ := (hb.cell (World.block_lt_of_cell? _ _ (hHeld.2.2.2.2.2.2.2.2.2.1))).trans (hHeld.2.2.2.2.2.2.2.2.2.1)
                        have HS10_ := (hb.cell (World.block_lt_of_cell? _ _ (hHeld.2.2.2.2.2.2.2.2.2.2.1))).trans (hHeld.2.2.2.2.2.2.2.2.2.2.1)
                        have HS11_ := (hb.cell (World.block_lt_of_cell? _ _ (hHeld.2.2.2.2.2.2.2.2.2.2.2.1))).trans (hHeld.2.2.2.2.2.2.2.2.2.2.2.1)
                        have HS12_ := (hb.cell (World.block_lt_of_cell? _ _ (hHeld.2.2.2.2.2.2.2.2.2.2.2.2.1))).trans (hHeld.2.2.2.2.2.2.2.2.2.2.2.2.1)
                        have HS13_ := (hb.cell (World.block_lt_of_cell? _ _ (hHeld.2.2.2.2.2.2.2.2.2.2.2.2.2.1))).trans (hHeld.2.2.2.2.2.2.2.2.2.2.2.2.2.1)
                        have HS14_ := (hb.cell (World.block_lt_of_cell? _ _ (hHeld.2.2.2.2.2.2.2.2.2.2.2.2.2.2.1))).trans (hHeld.2.2.2.2.2.2.2.2.2.2.2.2.2.2.1)
                        have HS15_ := (hb.cell (World.block_lt_of_cell? _ _ (hHeld.2.2.2.2.2.2.2.2.2.2.2.2.2.2.2))).trans (hHeld.2.2.2.2.2.2.2.2.2.2.2.2.2.2.2)
                        refine ⟨_, rfl, ?_⟩
                        replace HO_7 := am (Kd.R_below (rB HO_7.out) hb)
                        replace HO_9 := am (Kd.R_below (rB HO_9.out) hb)
                        replace BK407 := am (blk_below (bB BK407.out) hb)
                        replace HB := am (below_step (sB HB.out) hb)
                        (try clear hb)
                        (try clear hb2)
                        (try clear hk)
                        (try clear hi)
                        refine hK.out _ _ ⟨(blk_cell BK407.out 0).trans rfl, (blk_cell BK407.out 1).trans rfl, HS2_, HS3_, HS4_, HS5_, HS6_, HS7_, HS8_, HS9_, HS10_, HS11_, HS12_, HS13_, HS14_, HS15_⟩ (fun hHeld => ?_)
                        clear hK K
                        refine norm_ (a' := ?_) ?_ ?_
                        rotate_left
                        · show Act.put _ (some 65) _ = _
                          simp only [Act.put, qa, qb, qc, i64_w, i32_w]
                          rfl
                        refine pure_ (i := 5) (N := some 66) (v := ?_) (a' := ?_) #[o,o,o,o,o,o,z,z,z,z,z,z,z,z] rfl rfl (any_of HT_.out (by kernel_rfl)) (fun _ _ _ h => h) (Or.inl ⟨by rfl, ?_⟩) ?_ ?_
                        rotate_left
                        · intro w'
                          go_simp
                          with_reducible rfl
                        rotate_left
                        · simp only [Act.put, qa, qb, qc, i64_w, i32_w]
                          rfl
                        refine pure_ (i := 6) (N := some 67) (v := ?_) (a' := ?_) #[o,o,o,o,o,o,o,z,z,z,z,z,z,z] rfl rfl (any_of HT_.out (by kernel_rfl)) (fun _ _ _ h => h) (Or.inl ⟨by rfl, ?_⟩) ?_ ?_
                        rotate_left
                        · intro w'
                          go_simp
                          with_reducible rfl
                        rotate_left
                        · simp only [Act.put, qa, qb, qc, i64_w, i32_w]
                          rfl
                        refine pure_ (i := 7) (N := some 68) (v := ?_) (a' := ?_) #[o,o,o,o,o,o,o,o,z,z,z,z,z,z] rfl rfl (any_of HT_.out (by kernel_rfl)) (fun _ _ _ h => h) (Or.inl ⟨by rfl, ?_⟩) ?_ ?_
                        rotate_left
                        · intro w'
                          go_simp
                          with_reducible rfl
                        rotate_left
                        · simp only [Act.put, qa, qb, qc, i64_w, i32_w]
                          rfl
                        refine pure_ (i := 8) (N := some 69) (v := ?_) (a' := ?_) #[o,o,o,o,o,o,o,o,o,z,z,z,z,z] rfl rfl (any_of HT_.out (by kernel_rfl)) (fun _ _ _ h => h) (Or.inl ⟨by rfl, ?_⟩) ?_ ?_
                        rotate_left
                        · intro w'
                          go_simp
                          with_reducible rfl
                        rotate_left
                        · simp only [Act.put, qa, qb, qc, i64_w, i32_w]
                          rfl
                        refine pure_ (i := 9) (N := some 70) (v := ?_) (a' := ?_) #[o,o,o,o,o,o,o,o,o,o,z,z,z,z] rfl rfl (any_of HT_.out (by kernel_rfl)) (fun _ _ _ h => h) (Or.inl ⟨by rfl, ?_⟩) ?_ ?_
                        rotate_left
                        · intro w'
                          go_simp
                          with_reducible rfl
                        rotate_left
                        · simp only [Act.put, qa, qb, qc, i64_w, i32_w]
                          rfl
                        refine take_ (i := 10) (N := some 71) (v := ?_) (a' := ?_) #[o,o,o,o,o,o,o,o,o,o,o,z,z,z] rfl rfl (take_ofW HT_.out HW_.out (by kernel_rfl)) (fun _ _ _ h => h) (Or.inl ⟨by rfl, ?_⟩) hHeld ?_ ?_
                        rotate_left
                        · rintro w' ⟨s0, s1, s2, s3, s4, s5, s6, s7, s8, s9, s10, s11, s12, s13, s14, s15⟩
                          go_simp
                          with_reducible rfl
                        rotate_left
                        · simp only [Act.put, qa, qb, qc, i64_w, i32_w]
                          rfl
                        refine take_ (i := 11) (N := some 72) (v := ?_) (a' := ?_) #[o,o,o,o,o,o,o,o,o,o,o,o,z,z] rfl rfl (take_ofW HT_.out HW_.out (by kernel_rfl)) (fun _ _ _ h => h) (Or.inl ⟨by rfl, ?_⟩) hHeld ?_ ?_
                        rotate_left
                        · rintro w' ⟨s0, s1, s2, s3, s4, s5, s6, s7, s8, s9, s10, s11, s12, s13, s14, s15⟩
                          go_simp
                          with_reducible rfl
                        rotate_left
                        · simp only [Act.put, qa, qb, qc, i64_w, i32_w]
                          rfl
                        refine one_ (i := 12) (N := some 73) #[o,o,o,o,o,o,o,o,o,o,o,o,o,z] rfl rfl (one_of HT_.out (by kernel_rfl)) (by decide) (fun K hK => ?_)
                        refine goes_ Try.func48 (by kernel_rfl) rfl #[.agg #[.int .i64 ((rd_T48 t414 x10_2).f1.f0), .int .i64 ((rd_T48 t414 x10_2).f1.f1)], .agg #[.int .i64 t404, .int .i64 t405]] (by rfl) rfl rfl (by (try simp only [List.map_toArray, List.map_cons, List.map_nil]); first | done | rfl | (simp only [List.length_drop, List.length_take]; rfl)) ?_
                        with_reducible refine (impl_MatchSite.calls ((rd_T48 t414 x10_2).f1.f0) ((rd_T48 t414 x10_2).f1.f1) t404 t405 false _ A33.out).mono ?_
                        rintro e w38 ⟨rfl, hb⟩
                        have HS2_ := (hb.cell (World.block_lt_of_cell? _ _ (hHeld.2.2.1))).trans (hHeld.2.2.1)
                        have HS3_ := (hb.cell (World.block_lt_of_cell? _ _ (hHeld.2.2.2.1))).trans (hHeld.2.2.2.1)
                        have HS4_ := (hb.cell (World.block_lt_of_cell? _ _ (hHeld.2.2.2.2.1))).trans (hHeld.2.2.2.2.1)
                        have HS5_ := (hb.cell (World.block_lt_of_cell? _ _ (hHeld.2.2.2.2.2.1))).trans (hHeld.2.2.2.2.2.1)
                        have HS6_ := (hb.cell (World.block_lt_of_cell? _ _ (hHeld.2.2.2.2.2.2.1))).trans (hHeld.2.2.2.2.2.2.1)
                        have HS7_ := (hb.cell (World.block_lt_of_cell? _ _ (hHeld.2.2.2.2.2.2.2.1))).trans (hHeld.2.2.2.2.2.2.2.1)
                        have HS8_ := (hb.cell (World.block_lt_of_cell? _ _ (hHeld.2.2.2.2.2.2.2.2.1))).trans (hHeld.2.2.2.2.2.2.2.2.1)
                        have HS9_ := (hb.cell (World.block_lt_of_cell? _ _ (hHeld.2.2.2.2.2.2.2.2.2.1))).trans (hHeld.2.2.2.2.2.2.2.2.2.1)
                        have HS10_ := (hb.cell (World.block_lt_of_cell? _ _ (hHeld.2.2.2.2.2.2.2.2.2.2.1))).trans (hHeld.2.2.2.2.2.2.2.2.2.2.1)
                        have HS11_ := (hb.cell (World.block_lt_of_cell? _ _ (hHeld.2.2.2.2.2.2.2.2.2.2.2.1))).trans (hHeld.2.2.2.2.2.2.2.2.2.2.2.1)
                        have HS12_ := (hb.cell (World.block_lt_of_cell? _ _ (hHeld.2.2.2.2.2.2.2.2.2.2.2.2.1))).trans (hHeld.2.2.2.2.2.2.2.2.2.2.2.2.1)
                        have HS13_ := (hb.cell (World.block_lt_of_cell? _ _ (hHeld.2.2.2.2.2.2.2.2.2.2.2.2.2.1))).trans (hHeld.2.2.2.2.2.2.2.2.2.2.2.2.2.1)
                        have HS14_ := (hb.cell (World.block_lt_of_cell? _ _ (hHeld.2.2.2.2.2.2.2.2.2.2.2.2.2.2.1))).trans (hHeld.2.2.2.2.2.2.2.2.2.2.2.2.2.2.1)
                        have HS15_ := (hb.cell (World.block_lt_of_cell? _ _ (hHeld.2.2.2.2.2.2.2.2.2.2.2.2.2.2.2))).trans (hHeld.2.2.2.2.2.2.2.2.2.2.2.2.2.2.2)
                        refine ⟨_, rfl, ?_⟩
                        replace HO_7 := am (Kd.R_below (rB HO_7.out) hb)
                        replace HO_9 := am (Kd.R_below (rB HO_9.out) hb)
                        replace BK407 := am (blk_below (bB BK407.out) hb)
                        replace HB := am (below_step (sB HB.out) hb)
                        (try clear hb)
                        (try clear hb2)
                        (try clear hk)
                        (try clear hi)
                        refine hK.out _ _ ⟨(blk_cell BK407.out 0).trans rfl, (blk_cell BK407.out 1).trans rfl, HS2_, HS3_, HS4_, HS5_, HS6_, HS7_, HS8_, HS9_, HS10_, HS11_, HS12_, HS13_, HS14_, HS15_⟩ (fun hHeld => ?_)
                        clear hK K
                        refine norm_ (a' := ?_) ?_ ?_
                        rotate_left
                        · show Act.put _ (some 73) _ = _
                          simp only [Act.put, qa, qb, qc, i64_w, i32_w]
                          rfl
                        refine pure_ (i := 13) (N := some 74) (v := ?_) (a' := ?_) #[o,o,o,o,o,o,o,o,o,o,o,o,o,o] rfl rfl (any_of HT_.out (by kernel_rfl)) (fun _ _ _ h => h) (Or.inl ⟨by rfl, ?_⟩) ?_ ?_
                        rotate_left
                        · intro w'
                          go_simp
                          with_reducible rfl
                        rotate_left
                        · simp only [Act.put, qa, qb, qc, i64_w, i32_w]
                          rfl
                        refine done_ (done_of HT_.out (by kernel_rfl)) ?_
                        try go_wp2
                        go_roundg k2
                        case measure => have := HJ6.out; have := HK2.out; omega
                        case rel => exact ⟨(wrap64 (x10_2 + 1)), (by first | rfl | (simp; done) | (simp [*]; done)), H', ⟨by have := HJ6.out; have := HK2.out; omega⟩, ⟨by (with_reducible repeat (first | apply Kd.R_alloc | apply Kd.R_drewN | apply Kd.R_drew)); exact HO_7.out⟩, ⟨by (with_reducible repeat (first | apply Kd.R_alloc | apply Kd.R_drewN | apply Kd.R_drew)); exact HO_9.out⟩, ⟨bB BK407.out⟩, ⟨sB HB.out⟩⟩
                    · replace c32 := Bool.eq_false_iff.mpr c32
                      subst c32
                      have H1 : (laws_FnLent.l0 k2 t403 t406 t408 t414 (wrap64 (x10_2 + 1)) t404 t405) = some r := by rw [if_neg (show ¬ (false = true) by decide)] at H; exact H
                      clear H
                      have H := H1
                      clear H1
                      have H' := Aside0.mk H
                      clear H
                      obtain ⟨Ao39, co39, eo39⟩ := Kd.R_slice HO_9.out
                      subst eo39
                      try go_wp2
                      replace HO_7 := am (Kd.R_drew HO_7.out)
                      replace HO_9 := am (Kd.R_drew HO_9.out)
                      replace BK407 := am (blk_drew BK407.out)
                      replace HB := am (below_drew1 HB.out)
                      have p417 : 0 ≤ (x10_2 : Int) := of_decide_eq_true (by first | (with_reducible assumption) | assumption)
                      have q417 : x10_2 < (t414.length : Int) := of_decide_eq_true (by first | (with_reducible assumption) | assumption)
                      obtain ⟨ad417, e417, hx417_0, hx417_1, hx417_2, hx417_3, hx417_4, hx417_5, hx417_6⟩ := at_T48 (Kd.R_reads' HO_9.out).2.2 x10_2 p417 q417
                      cases e417
                      replace p417 := eq_true p417
                      replace q417 := eq_true q417
                      refine start_ (n := 14) (S := fun w' => w'.cell? (ad417.add ((x10_2).toNat * 7)) = some (.int .i64 ((rd_T48 t414 x10_2).f0)) ∧ w'.cell? ⟨(ad417.add ((x10_2).toNat * 7)).block, (ad417.add ((x10_2).toNat * 7)).off + 1, none⟩ = some (.int .i64 ((rd_T48 t414 x10_2).f1.f0)) ∧ w'.cell? ⟨(ad417.add ((x10_2).toNat * 7)).block, (ad417.add ((x10_2).toNat * 7)).off + 2, none⟩ = some (.int .i64 ((rd_T48 t414 x10_2).f1.f1)) ∧ w'.cell? ⟨(ad417.add ((x10_2).toNat * 7)).block, (ad417.add ((x10_2).toNat * 7)).off + 3, none⟩ = some (.int .i64 ((rd_T48 t414 x10_2).f2)) ∧ w'.cell? ⟨(ad417.add ((x10_2).toNat * 7)).block, (ad417.add ((x10_2).toNat * 7)).off + 4, none⟩ = some (.int .i64 ((rd_T48 t414 x10_2).f3)) ∧ w'.cell? ⟨(ad417.add ((x10_2).toNat * 7)).block, (ad417.add ((x10_2).toNat * 7)).off + 5, none⟩ = some (.int .i64 ((rd_T48 t414 x10_2).f4)) ∧ w'.cell? ⟨(ad417.add ((x10_2).toNat * 7)).block, (ad417.add ((x10_2).toNat * 7)).off + 6, none⟩ = some (.bool ((rd_T48 t414 x10_2).f5))) (ds := []) #[z,z,z,z,z,z,z,z,z,z,z,z,z,z] (by kernel_rfl) rfl rfl ⟨hx417_0, hx417_1, hx417_2, hx417_3, hx417_4, hx417_5, hx417_6⟩ (fun hHeld => ?_); refine with_tabW laws_FnLent.tab13 laws_FnLent.bits13 (fun HT_ HW_ => ?_)
                      generalize wr.drew = w40 at HO_7 HO_9 BK407 HB hx417_0 hx417_1 hx417_2 hx417_3 hx417_4 hx417_5 hx417_6 hHeld ⊢
                      refine pure_ (i := 0) (N := some 61) (v := ?_) (a' := ?_) #[o,z,z,z,z,z,z,z,z,z,z,z,z,z] rfl rfl (any_of HT_.out (by kernel_rfl)) (fun _ _ _ h => h) (Or.inl ⟨by rfl, ?_⟩) ?_ ?_
                      rotate_left
                      · intro w'
                        go_simp
                        with_reducible rfl
                      rotate_left
                      · simp only [Act.put, qa, qb, qc, i64_w, i32_w]
                        rfl
                      refine pure_ (i := 1) (N := some 62) (v := ?_) (a' := ?_) #[o,o,z,z,z,z,z,z,z,z,z,z,z,z] rfl rfl (any_of HT_.out (by kernel_rfl)) (fun _ _ _ h => h) (Or.inl ⟨by rfl, ?_⟩) ?_ ?_
                      rotate_left
                      · intro w'
                        go_simp
                        with_reducible rfl
                      rotate_left
                      · simp only [Act.put, qa, qb, qc, i64_w, i32_w]
                        rfl
                      refine pure_ (i := 2) (N := some 63) (v := ?_) (a' := ?_) #[o,o,o,z,z,z,z,z,z,z,z,z,z,z] rfl rfl (any_of HT_.out (by kernel_rfl)) (fun _ _ _ h => h) (Or.inl ⟨by rfl, ?_⟩) ?_ ?_
                      rotate_left
                      · intro w'
                        go_simp
                        with_reducible rfl
                      rotate_left
                      · simp only [Act.put, qa, qb, qc, i64_w, i32_w]
                        rfl
                      refine take_ (i := 3) (N := some 64) (v := ?_) (a' := ?_) #[o,o,o,o,z,z,z,z,z,z,z,z,z,z] rfl rfl (take_ofW HT_.out HW_.out (by kernel_rfl)) (fun _ _ _ h => h) (Or.inl ⟨by rfl, ?_⟩) hHeld ?_ ?_
                      rotate_left
                      · rintro w' ⟨s0, s1, s2, s3, s4, s5, s6⟩
                        go_simp
                        with_reducible rfl
                      rotate_left
                      · simp only [Act.put, qa, qb, qc, i64_w, i32_w]
                        rfl
                      refine one_ (i := 4) (N := some 65) #[o,o,o,o,o,z,z,z,z,z,z,z,z,z] rfl rfl (one_of HT_.out (by kernel_rfl)) (by decide) (fun K hK => ?_)
                      refine goes_ Try.func47 (by kernel_rfl) rfl #[.agg #[.int .i64 ((rd_T48 t414 x10_2).f0), .int .i64 ((rd_T48 t414 x10_2).f1.f0), .int .i64 ((rd_T48 t414 x10_2).f1.f1), .int .i64 ((rd_T48 t414 x10_2).f2), .int .i64 ((rd_T48 t414 x10_2).f3), .int .i64 ((rd_T48 t414 x10_2).f4), .bool ((rd_T48 t414 x10_2).f5)]] (by rfl) rfl rfl (by (try simp only [List.map_toArray, List.map_cons, List.map_nil]); first | done | rfl | (simp only [List.length_drop, List.length_take]; rfl)) ?_
                      with_reducible refine (impl_IsLent.calls ((rd_T48 t414 x10_2).f0) ((rd_T48 t414 x10_2).f1.f0) ((rd_T48 t414 x10_2).f1.f1) ((rd_T48 t414 x10_2).f2) ((rd_T48 t414 x10_2).f3) ((rd_T48 t414 x10_2).f4) ((rd_T48 t414 x10_2).f5) false _ A31.out).mono ?_
                      rintro e w41 ⟨rfl, hb⟩
                      have HS0_ := (hb.cell (World.block_lt_of_cell? _ _ (hHeld.1))).trans (hHeld.1)
                      have HS1_ := (hb.cell (World.block_lt_of_cell? _ _ (hHeld.2.1))).trans (hHeld.2.1)
                      have HS2_ := (hb.cell (World.block_lt_of_cell? _ _ (hHeld.2.2.1))).trans (hHeld.2.2.1)
                      have HS3_ := (hb.cell (World.block_lt_of_cell? _ _ (hHeld.2.2.2.1))).trans (hHeld.2.2.2.1)
                      have HS4_ := (hb.cell (World.block_lt_of_cell? _ _ (hHeld.2.2.2.2.1))).trans (hHeld.2.2.2.2.1)
                      have HS5_ := (hb.cell (World.block_lt_of_cell? _ _ (hHeld.2.2.2.2.2.1))).trans (hHeld.2.2.2.2.2.1)
                      have HS6_ := (hb.cell (World.block_lt_of_cell? _ _ (hHeld.2.2.2.2.2.2))).trans (hHeld.2.2.2.2.2.2)
                      refine ⟨_, rfl, ?_⟩
                      replace HO_7 := am (Kd.R_below (rB HO_7.out) hb)
                      replace HO_9 := am (Kd.R_below (rB HO_9.out) hb)
                      replace BK407 := am (blk_below (bB BK407.out) hb)
                      replace HB := am (below_step (sB HB.out) hb)
                      (try clear hb)
                      (try clear hb2)
                      (try clear hk)
                      (try clear hi)
                      refine hK.out _ _ ⟨HS0_, HS1_, HS2_, HS3_, HS4_, HS5_, HS6_⟩ (fun hHeld => ?_)
                      clear hK K
                      refine norm_ (a' := ?_) ?_ ?_
                      rotate_left
                      · show Act.put _ (some 65) _ = _
                        simp only [Act.put, qa, qb, qc, i64_w, i32_w]
                        rfl
                      refine pure_ (i := 5) (N := some 66) (v := ?_) (a' := ?_) #[o,o,o,o,o,o,z,z,z,z,z,z,z,z] rfl rfl (any_of HT_.out (by kernel_rfl)) (fun _ _ _ h => h) (Or.inl ⟨by rfl, ?_⟩) ?_ ?_
                      rotate_left
                      · intro w'
                        go_simp
                        with_reducible rfl
                      rotate_left
                      · simp only [Act.put, qa, qb, qc, i64_w, i32_w]
                        rfl
                      refine pure_ (i := 6) (N := some 67) (v := undef) (a' := ?_) #[o,o,o,o,o,o,o,z,z,z,z,z,z,z] rfl rfl (any_of HT_.out (by kernel_rfl)) (fun _ _ _ h => h) (Or.inr ⟨by rfl, rfl⟩) ?_ ?_
                      rotate_left
                      · simp only [Act.put, qa, qb, qc, i64_w, i32_w]
                        rfl
                      refine pure_ (i := 7) (N := some 68) (v := undef) (a' := ?_) #[o,o,o,o,o,o,o,o,z,z,z,z,z,z] rfl rfl (any_of HT_.out (by kernel_rfl)) (fun _ _ _ h => h) (Or.inr ⟨by rfl, rfl⟩) ?_ ?_
                      rotate_left
                      · simp only [Act.put, qa, qb, qc, i64_w, i32_w]
                        rfl
                      refine pure_ (i := 8) (N := some 69) (v := undef) (a' := ?_) #[o,o,o,o,o,o,o,o,o,z,z,z,z,z] rfl rfl (any_of HT_.out (by kernel_rfl)) (fun _ _ _ h => h) (Or.inr ⟨by rfl, rfl⟩) ?_ ?_
                      rotate_left
                      · simp only [Act.put, qa, qb, qc, i64_w, i32_w]
                        rfl
                      refine pure_ (i := 9) (N := some 70) (v := undef) (a' := ?_) #[o,o,o,o,o,o,o,o,o,o,z,z,z,z] rfl rfl (any_of HT_.out (by kernel_rfl)) (fun _ _ _ h => h) (Or.inr ⟨by rfl, rfl⟩) ?_ ?_
                      rotate_left
                      · simp only [Act.put, qa, qb, qc, i64_w, i32_w]
                        rfl
                      refine pure_ (i := 10) (N := some 71) (v := undef) (a' := ?_) #[o,o,o,o,o,o,o,o,o,o,o,z,z,z] rfl rfl (any_of HT_.out (by kernel_rfl)) (fun _ _ _ h => h) (Or.inr ⟨by rfl, rfl⟩) ?_ ?_
                      rotate_left
                      · simp only [Act.put, qa, qb, qc, i64_w, i32_w]
                        rfl
                      refine pure_ (i := 11) (N := some 72) (v := undef) (a' := ?_) #[o,o,o,o,o,o,o,o,o,o,o,o,z,z] rfl rfl (any_of HT_.out (by kernel_rfl)) (fun _ _ _ h => h) (Or.inr ⟨by rfl, rfl⟩) ?_ ?_
                      rotate_left
                      · simp only [Act.put, qa, qb, qc, i64_w, i32_w]
                        rfl
                      refine pure_ (i := 12) (N := some 73) (v := undef) (a' := ?_) #[o,o,o,o,o,o,o,o,o,o,o,o,o,z] rfl rfl (any_of HT_.out (by kernel_rfl)) (fun _ _ _ h => h) (Or.inr ⟨by rfl, rfl⟩) ?_ ?_
                      rotate_left
                      · simp only [Act.put, qa, qb, qc, i64_w, i32_w]
                        rfl
                      refine pure_ (i := 13) (N := some 74) (v := ?_) (a' := ?_) #[o,o,o,o,o,o,o,o,o,o,o,o,o,o] rfl rfl (any_of HT_.out (by kernel_rfl)) (fun _ _ _ h => h) (Or.inl ⟨by rfl, ?_⟩) ?_ ?_
                      rotate_left
                      · intro w'
                        go_simp
                        with_reducible rfl
                      rotate_left
                      · simp only [Act.put, qa, qb, qc, i64_w, i32_w]
                        rfl
                      refine done_ (done_of HT_.out (by kernel_rfl)) ?_
                      try go_wp2
                      go_roundg k2
                      case measure => have := HJ6.out; have := HK2.out; omega
                      case rel => exact ⟨(wrap64 (x10_2 + 1)), (by first | rfl | (simp; done) | (simp [*]; done)), H', ⟨by have := HJ6.out; have := HK2.out; omega⟩, ⟨by (with_reducible repeat (first | apply Kd.R_alloc | apply Kd.R_drewN | apply Kd.R_drew)); exact HO_7.out⟩, ⟨by (with_reducible repeat (first | apply Kd.R_alloc | apply Kd.R_drewN | apply Kd.R_drew)); exact HO_9.out⟩, ⟨bB BK407.out⟩, ⟨sB HB.out⟩⟩
                  · rw [if_neg c30] at H
                    exact absurd H (by simp)
                · rw [if_neg c29] at H
                  have c29b0 : decide (x10_2 < (t414.length : Int)) = false := decide_eq_false c29
                  clear c29
                  replace H := Option.bind_eq_some_iff.mp H
                  obtain ⟨t421, A420, H⟩ := H
                  replace H : (laws_FnLent.l1 k2 t403 t406 t408 t421 0 t404 t405) = some r := H
                  have A42 := Aside0.mk A420
                  clear A420
                  have H' := Aside0.mk H
                  clear H
                  obtain ⟨Ao43, co43, eo43⟩ := Kd.R_slice HO_9.out
                  subst eo43
                  have hcz44_0 : wr.cell? ⟨gb407, 0, none⟩ = some (.int .i64 t404) := (blk_cell BK407.out 0).trans rfl
                  have hcz44_1 : wr.cell? ⟨gb407, 1, none⟩ = some (.int .i64 t405) := (blk_cell BK407.out 1).trans rfl
                  have hfz44_0 := blk_frozen BK407.out 0
                  have hfz44_1 := blk_frozen BK407.out 1
                  go_wp2_with (first | ((with_reducible refine gate_callee (f := 49) rfl ?_); refine goesL_ (some 78) rfl rfl Try.func49 (by kernel_rfl) rfl #[.int .i64 t403, .agg #[.int .i64 t404, .int .i64 t405], .int .i64 t406] rfl (by (try simp only [List.map_toArray, List.map_cons, List.map_nil]); first | done | rfl | (simp only [List.length_drop, List.length_take]; rfl)) ?_; (with_reducible refine (impl_LendGrants.calls t403 t404 t405 t406 t421 _ A42.out).mono ?_); rintro e w45 ⟨v422, rfl, ho0, hb⟩; refine ⟨_, rfl, ?_⟩; have n0_ := am (Kd.R_elder' (rB HO_7.out) (Kd.R_base ho0) hb); have n1_ := am (Kd.R_elder' (rB HO_9.out) (Kd.R_base ho0) hb); have n2_ := am (Kd.R_lower (Kd.R_new' (Kd.R_new' ho0 (Kd.R_lt (rB HO_7.out))) (Kd.R_lt (rB HO_9.out))) (below_size (sB HB.out))); have n3_ := am (blk_below (bB BK407.out) hb); have n4_ := am (below_step (sB HB.out) hb); clear HO_7; clear HO_9; clear BK407; clear HB; have HO_7 := n0_; have HO_9 := n1_; have HO423 := n2_; have BK407 := n3_; have HB := n4_; clear n0_ n1_ n2_ n3_ n4_; (try clear hb); (try clear hb2); (try clear hk); (try clear hi); (try clear ho0)))
                  go_loopg [12] k2 (fun kq v12 w' => ∃ (x12_3 : Int), v12 = .int .i64 x12_3 ∧ Aside0 (laws_FnLent.l1 kq t403 t406 t408 t421 x12_3 t404 t405 = some r) ∧ Aside0 (kq ≤ k2) ∧ Aside0 (Kd.R k48 48 w' w.heap.size (fun k_ => some k_ ≠ (v422 : Value).ownBlock) (.slice Ao27 t408.length co27) t408) ∧ Aside0 (Kd.R k48 48 w' w.heap.size (fun k_ => some k_ ≠ ((.slice Ao27 t408.length co27) : Value).ownBlock) v422 t421) ∧ Aside0 (w'.heap[gb407]? = some (.cells #[.int .i64 t404, .int .i64 t405] 33 (0, 0))) ∧ Aside0 (Below w.heap.size w w'))
                  case atStart => exact ⟨(0), (by first | rfl | (simp; done) | (simp [*]; done)), H', ⟨Nat.le_refl _⟩, ⟨by (with_reducible repeat (first | apply Kd.R_alloc | apply Kd.R_drewN | apply Kd.R_drew)); exact Kd.R_mono HO_7.out (fun _ hk => hk.2)⟩, ⟨by (with_reducible repeat (first | apply Kd.R_alloc | apply Kd.R_drewN | apply Kd.R_drew)); exact Kd.R_mono HO423.out (fun _ hk => hk.1.2)⟩, ⟨bB BK407.out⟩, ⟨sB HB.out⟩⟩
                  case round =>
                    clear H'
                    try clear c1
                    try clear c2
                    try clear p2
                    try clear c3
                    try clear c4
                    try clear p4
                    try clear q4
                    try clear hx4
                    try clear c6
                    try clear p6
                    try clear c8
                    try clear c14
                    try clear c24
                    try clear c29
                    try clear c29b0
                    try clear c30
                    try clear c30b0
                    try clear c31
                    try clear c32
                    try clear c34
                    try clear c36
                    try clear c39
                    try clear p41
                    try clear q41
                    try clear hx41
                    try clear c45
                    try clear hcz10_0 hcz10_1
                    try clear hcz16_0 hcz16_1
                    try clear hcz19_0 hcz19_1
                    try clear hcz21_0 hcz21_1
                    try clear hcz26_0 hcz26_1
                    try clear hcz44_0 hcz44_1
                    try clear hfz10_0 hfz10_1
                    try clear hfz16_0 hfz16_1
                    try clear hfz19_0 hfz19_1
                    try clear hfz21_0 hfz21_1
                    try clear hfz26_0 hfz26_1
                    try clear hfz44_0 hfz44_1
                    try clear hx417_0
                    try clear hx417_1
                    try clear hx417_2
                    try clear hx417_3
                    try clear hx417_4
                    try clear hx417_5
                    try clear hx417_6
                    try clear hx419_0
                    try clear hx419_1
                    try clear hx419_2
                    try clear hx419_3
                    try clear hx419_4
                    try clear hx419_5
                    try clear hx419_6
                    try clear p2
                    try clear p417
                    try clear p419
                    try clear p6
                    try clear q417
                    try clear q419
                    obtain ⟨x12_3, rfl, HA, HK3, HO_7, HO_11, BK407, HB⟩ := hrel
                    cases gk with
                    | zero => exact absurd HA.out (by simp [laws_FnLent.l1])
                    | succ k3 =>
                      have H := HA.out
                      clear HA
                      simp only [laws_FnLent.l1] at H
                      by_cases c46 : x12_3 < (t421.length : Int)
                      · rw [if_pos c46] at H
                        have c46b0 : decide (x12_3 < (t421.length : Int)) = true := decide_eq_true c46
                        clear c46
                        by_cases c47 : 0 ≤ x12_3
                        · rw [if_pos c47] at H
                          have c47b0 : decide (0 ≤ x12_3) = true := decide_eq_true c47
                          clear c47
                          replace H := Option.bind_eq_some_iff.mp H
                          obtain ⟨t425, A480, H⟩ := H
                          replace H : (if t425 = true then ((impl_Covers.f ((rd_T48 t421 x12_3).f0) ((rd_T48 t421 x12_3).f1.f0) ((rd_T48 t421 x12_3).f1.f1) ((rd_T48 t421 x12_3).f2) ((rd_T48 t421 x12_3).f3) ((rd_T48 t421 x12_3).f4) ((rd_T48 t421 x12_3).f5) t403 t404 t405 ((rd_T48 t421 x12_3).f2) (wrap64 ((wrap64 (t406 + 5)) + 1)) true).bind fun t428 => (if t428 = true then (some false) else ((impl_Covers.f ((rd_T48 t421 x12_3).f0) ((rd_T48 t421 x12_3).f1.f0) ((rd_T48 t421 x12_3).f1.f1) ((rd_T48 t421 x12_3).f2) ((rd_T48 t421 x12_3).f3) ((rd_T48 t421 x12_3).f4) ((rd_T48 t421 x12_3).f5) t403 t404 (Int.tmod (wrap64 (t405 + 1)) 10) ((rd_T48 t421 x12_3).f2) t406 true).bind fun t431 => (if t431 = true then (some false) else (laws_FnLent.l1 k3 t403 t406 t408 t421 (wrap64 (x12_3 + 1)) t404 t405))))) else (some false)) = some r := H
                          have A48 := Aside0.mk A480
                          clear A480
                          by_cases c49 : t425 = true
                          · subst c49
                            have H1 : ((impl_Covers.f ((rd_T48 t421 x12_3).f0) ((rd_T48 t421 x12_3).f1.f0) ((rd_T48 t421 x12_3).f1.f1) ((rd_T48 t421 x12_3).f2) ((rd_T48 t421 x12_3).f3) ((rd_T48 t421 x12_3).f4) ((rd_T48 t421 x12_3).f5) t403 t404 t405 ((rd_T48 t421 x12_3).f2) (wrap64 ((wrap64 (t406 + 5)) + 1)) true).bind fun t428 => (if t428 = true then (some false) else ((impl_Covers.f ((rd_T48 t421 x12_3).f0) ((rd_T48 t421 x12_3).f1.f0) ((rd_T48 t421 x12_3).f1.f1) ((rd_T48 t421 x12_3).f2) ((rd_T48 t421 x12_3).f3) ((rd_T48 t421 x12_3).f4) ((rd_T48 t421 x12_3).f5) t403 t404 (Int.tmod (wrap64 (t405 + 1)) 10) ((rd_T48 t421 x12_3).f2) t406 true).bind fun t431 => (if t431 = true then (some false) else (laws_FnLent.l1 k3 t403 t406 t408 t421 (wrap64 (x12_3 + 1)) t404 t405))))) = some r := by rw [if_pos rfl] at H; exact H
                            clear H
                            have H := H1
                            clear H1
                            replace H := Option.bind_eq_some_iff.mp H
                            obtain ⟨t428, A500, H⟩ := H
                            replace H : (if t428 = true then (some false) else ((impl_Covers.f ((rd_T48 t421 x12_3).f0) ((rd_T48 t421 x12_3).f1.f0) ((rd_T48 t421 x12_3).f1.f1) ((rd_T48 t421 x12_3).f2) ((rd_T48 t421 x12_3).f3) ((rd_T48 t421 x12_3).f4) ((rd_T48 t421 x12_3).f5) t403 t404 (Int.tmod (wrap64 (t405 + 1)) 10) ((rd_T48 t421 x12_3).f2) t406 true).bind fun t431 => (if t431 = true then (some false) else (laws_FnLent.l1 k3 t403 t406 t408 t421 (wrap64 (x12_3 + 1)) t404 t405)))) = some r := H
                            have A50 := Aside0.mk A500
                            clear A500
                            by_cases c51 : t428 = true
                            · subst c51
                              have H1 : (some false) = some r := by rw [if_pos rfl] at H; exact H
                              clear H
                              have H := H1
                              clear H1
                              exact absurd ((Option.some.inj H).trans HRT.out) (by decide)
                            · replace c51 := Bool.eq_false_iff.mpr c51
                              subst c51
                              have H1 : ((impl_Covers.f ((rd_T48 t421 x12_3).f0) ((rd_T48 t421 x12_3).f1.f0) ((rd_T48 t421 x12_3).f1.f1) ((rd_T48 t421 x12_3).f2) ((rd_T48 t421 x12_3).f3) ((rd_T48 t421 x12_3).f4) ((rd_T48 t421 x12_3).f5) t403 t404 (Int.tmod (wrap64 (t405 + 1)) 10) ((rd_T48 t421 x12_3).f2) t406 true).bind fun t431 => (if t431 = true then (some false) else (laws_FnLent.l1 k3 t403 t406 t408 t421 (wrap64 (x12_3 + 1)) t404 t405))) = some r := by rw [if_neg (show ¬ (false = true) by decide)] at H; exact H
                              clear H
                              have H := H1
                              clear H1
                              replace H := Option.bind_eq_some_iff.mp H
                              obtain ⟨t431, A520, H⟩ := H
                              replace H : (if t431 = true then (some false) else (laws_FnLent.l1 k3 t403 t406 t408 t421 (wrap64 (x12_3 + 1)) t404 t405)) = some r := H
                              have A52 := Aside0.mk A520
                              clear A520
                              by_cases c53 : t431 = true
                              · subst c53
                                have H1 : (some false) = some r := by rw [if_pos rfl] at H; exact H
                                clear H
                                have H := H1
                                clear H1
                                exact absurd ((Option.some.inj H).trans HRT.out) (by decide)
                              · replace c53 := Bool.eq_false_iff.mpr c53
                                subst c53
                                have H1 : (laws_FnLent.l1 k3 t403 t406 t408 t421 (wrap64 (x12_3 + 1)) t404 t405) = some r := by rw [if_neg (show ¬ (false = true) by decide)] at H; exact H
                                clear H
                                have H := H1
                                clear H1
                                have H' := Aside0.mk H
                                clear H
                                obtain ⟨Ao54, co54, eo54⟩ := Kd.R_slice HO_11.out
                                subst eo54
                                try go_wp2
                                replace HO_7 := am (Kd.R_drew HO_7.out)
                                replace HO_11 := am (Kd.R_drew HO_11.out)
                                replace BK407 := am (blk_drew BK407.out)
                                replace HB := am (below_drew1 HB.out)
                                have p424 : 0 ≤ (x12_3 : Int) := of_decide_eq_true (by first | (with_reducible assumption) | assumption)
                                have q424 : x12_3 < (t421.length : Int) := of_decide_eq_true (by first | (with_reducible assumption) | assumption)
                                obtain ⟨ad424, e424, hx424_0, hx424_1, hx424_2, hx424_3, hx424_4, hx424_5, hx424_6⟩ := at_T48 (Kd.R_reads' HO_11.out).2.2 x12_3 p424 q424
                                cases e424
                                replace p424 := eq_true p424
                                replace q424 := eq_true q424
                                have p426 : 0 ≤ (x12_3 : Int) := of_decide_eq_true (by first | (with_reducible assumption) | assumption)
                                have q426 : x12_3 < (t421.length : Int) := of_decide_eq_true (by first | (with_reducible assumption) | assumption)
                                obtain ⟨ad426, e426, hx426_0, hx426_1, hx426_2, hx426_3, hx426_4, hx426_5, hx426_6⟩ := at_T48 (Kd.R_reads' HO_11.out).2.2 x12_3 p426 q426
                                obtain rfl : ad424 = ad426 := (by injection e426)
                                replace p426 := eq_true p426
                                replace q426 := eq_true q426
                                have p427 : 0 ≤ (x12_3 : Int) := of_decide_eq_true (by first | (with_reducible assumption) | assumption)
                                have q427 : x12_3 < (t421.length : Int) := of_decide_eq_true (by first | (with_reducible assumption) | assumption)
                                obtain ⟨ad427, e427, hx427_0, hx427_1, hx427_2, hx427_3, hx427_4, hx427_5, hx427_6⟩ := at_T48 (Kd.R_reads' HO_11.out).2.2 x12_3 p427 q427
                                obtain rfl : ad424 = ad427 := (by injection e427)
                                replace p427 := eq_true p427
                                replace q427 := eq_true q427
                                have p429 : 0 ≤ (x12_3 : Int) := of_decide_eq_true (by first | (with_reducible assumption) | assumption)
                                have q429 : x12_3 < (t421.length : Int) := of_decide_eq_true (by first | (with_reducible assumption) | assumption)
                                obtain ⟨ad429, e429, hx429_0, hx429_1, hx429_2, hx429_3, hx429_4, hx429_5, hx429_6⟩ := at_T48 (Kd.R_reads' HO_11.out).2.2 x12_3 p429 q429
                                obtain rfl : ad424 = ad429 := (by injection e429)
                                replace p429 := eq_true p429
                                replace q429 := eq_true q429
                                have p430 : 0 ≤ (x12_3 : Int) := of_decide_eq_true (by first | (with_reducible assumption) | assumption)
                                have q430 : x12_3 < (t421.length : Int) := of_decide_eq_true (by first | (with_reducible assumption) | assumption)
                                obtain ⟨ad430, e430, hx430_0, hx430_1, hx430_2, hx430_3, hx430_4, hx430_5, hx430_6⟩ := at_T48 (Kd.R_reads' HO_11.out).2.2 x12_3 p430 q430
                                obtain rfl : ad424 = ad430 := (by injection e430)
                                replace p430 := eq_true p430
                                replace q430 := eq_true q430
                                refine start_ (n := 44) (S := fun w' => w'.cell? ⟨gb407, 0, none⟩ = some (.int .i64 t404) ∧ w'.cell? ⟨gb407, 1, none⟩ = some (.int .i64 t405) ∧ w'.cell? (ad424.add ((x12_3).toNat * 7)) = some (.int .i64 ((rd_T48 t421 x12_3).f0)) ∧ w'.cell? ⟨(ad424.add ((x12_3).toNat * 7)).block, (ad424.add ((x12_3).toNat * 7)).off + 1, none⟩ = some (.int .i64 ((rd_T48 t421 x12_3).f1.f0)) ∧ w'.cell? ⟨(ad424.add ((x12_3).toNat * 7)).block, (ad424.add ((x12_3).toNat * 7)).off + 2, none⟩ = some (.int .i64 ((rd_T48 t421 x12_3).f1.f1)) ∧ w'.cell? ⟨(ad424.add ((x12_3).toNat * 7)).block, (ad424.add ((x12_3).toNat * 7)).off + 3, none⟩ = some (.int .i64 ((rd_T48 t421 x12_3).f2)) ∧ w'.cell? ⟨(ad424.add ((x12_3).toNat * 7)).block, (ad424.add ((x12_3).toNat * 7)).off + 4, none⟩ = some (.int .i64 ((rd_T48 t421 x12_3).f3)) ∧ w'.cell? ⟨(ad424.add ((x12_3).toNat * 7)).block, (ad424.add ((x12_3).toNat * 7)).off + 5, none⟩ = some (.int .i64 ((rd_T48 t421 x12_3).f4)) ∧ w'.cell? ⟨(ad424.add ((x12_3).toNat * 7)).block, (ad424.add ((x12_3).toNat * 7)).off + 6, none⟩ = some (.bool ((rd_T48 t421 x12_3).f5)) ∧ w'.cell? (ad424.add ((x12_3).toNat * 7)) = some (.int .i64 ((rd_T48 t421 x12_3).f0)) ∧ w'.cell? ⟨(ad424.add ((x12_3).toNat * 7)).block, (ad424.add ((x12_3).toNat * 7)).off + 1, none⟩ = some (.int .i64 ((rd_T48 t421 x12_3).f1.f0)) ∧ w'.cell? ⟨(ad424.add ((x12_3).toNat * 7)).block, (ad424.add ((x12_3).toNat * 7)).off + 2, none⟩ = some (.int .i64 ((rd_T48 t421 x12_3).f1.f1)) ∧ w'.cell? ⟨(ad424.add ((x12_3).toNat * 7)).block, (ad424.add ((x12_3).toNat * 7)).off + 3, none⟩ = some (.int .i64 ((rd_T48 t421 x12_3).f2)) ∧ w'.cell? ⟨(ad424.add ((x12_3).toNat * 7)).block, (ad424.add ((x12_3).toNat * 7)).off + 4, none⟩ = some (.int .i64 ((rd_T48 t421 x12_3).f3)) ∧ w'.cell? ⟨(ad424.add ((x12_3).toNat * 7)).block, (ad424.add ((x12_3).toNat * 7)).off + 5, none⟩ = some (.int .i64 ((rd_T48 t421 x12_3).f4)) ∧ w'.cell? ⟨(ad424.add ((x12_3).toNat * 7)).block, (ad424.add ((x12_3).toNat * 7)).off + 6, none⟩ = some (.bool ((rd_T48 t421 x12_3).f5)) ∧ w'.cell? (ad424.add ((x12_3).toNat * 7)) = some (.int .i64 ((rd_T48 t421 x12_3).f0)) ∧ w'.cell? ⟨(ad424.add ((x12_3).toNat * 7)).block, (ad424.add ((x12_3).toNat * 7)).off + 1, none⟩ = some (.int .i64 ((rd_T48 t421 x12_3).f1.f0)) ∧ w'.cell? ⟨(ad424.add ((x12_3).toNat * 7)).block, (ad424.add ((x12_3).toNat * 7)).off + 2, none⟩ = some (.int .i64 ((rd_T48 t421 x12_3).f1.f1)) ∧ w'.cell? ⟨(ad424.add ((x12_3).toNat * 7)).block, (ad424.add ((x12_3).toNat * 7)).off + 3, none⟩ = some (.int .i64 ((rd_T48 t421 x12_3).f2)) ∧ w'.cell? ⟨(ad424.add ((x12_3).toNat * 7)).block, (ad424.add ((x12_3).toNat * 7)).off + 4, none⟩ = some (.int .i64 ((rd_T48 t421 x12_3).f3)) ∧ w'.cell? ⟨(ad424.add ((x12_3).toNat * 7)).block, (ad424.add ((x12_3).toNat * 7)).off + 5, none⟩ = some (.int .i64 ((rd_T48 t421 x12_3).f4)) ∧ w'.cell? ⟨(ad424.add ((x12_3).toNat * 7)).block, (ad424.add ((x12_3).toNat * 7)).off + 6, none⟩ = some (.bool ((rd_T48 t421 x12_3).f5)) ∧ w'.cell? (ad424.add ((x12_3).toNat * 7)) = some (.int .i64 ((rd_T48 t421 x12_3).f0)) ∧ w'.cell? ⟨(ad424.add ((x12_3).toNat * 7)).block, (ad424.add ((x12_3).toNat * 7)).off + 1, none⟩ = some (.int .i64 ((rd_T48 t421 x12_3).f1.f0)) ∧ w'.cell? ⟨(ad424.add ((x12_3).toNat * 7)).block, (ad424.add ((x12_3).toNat * 7)).off + 2, none⟩ = some (.int .i64 ((rd_T48 t421 x12_3).f1.f1)) ∧ w'.cell? ⟨(ad424.add ((x12_3).toNat * 7)).block, (ad424.add ((x12_3).toNat * 7)).off + 3, none⟩ = some (.int .i64 ((rd_T48 t421 x12_3).f2)) ∧ w'.cell? ⟨(ad424.add ((x12_3).toNat * 7)).block, (ad424.add ((x12_3).toNat * 7)).off + 4, none⟩ = some (.int .i64 ((rd_T48 t421 x12_3).f3)) ∧ w'.cell? ⟨(ad424.add ((x12_3).toNat * 7)).block, (ad424.add ((x12_3).toNat * 7)).off + 5, none⟩ = some (.int .i64 ((rd_T48 t421 x12_3).f4)) ∧ w'.cell? ⟨(ad424.add ((x12_3).toNat * 7)).block, (ad424.add ((x12_3).toNat * 7)).off + 6, none⟩ = some (.bool ((rd_T48 t421 x12_3).f5)) ∧ w'.cell? (ad424.add ((x12_3).toNat * 7)) = some (.int .i64 ((rd_T48 t421 x12_3).f0)) ∧ w'.cell? ⟨(ad424.add ((x12_3).toNat * 7)).block, (ad424.add ((x12_3).toNat * 7)).off + 1, none⟩ = some (.int .i64 ((rd_T48 t421 x12_3).f1.f0)) ∧ w'.cell? ⟨(ad424.add ((x12_3).toNat * 7)).block, (ad424.add ((x12_3).toNat * 7)).off + 2, none⟩ = some (.int .i64 ((rd_T48 t421 x12_3).f1.f1)) ∧ w'.cell? ⟨(ad424.add ((x12_3).toNat * 7)).block, (ad424.add ((x12_3).toNat * 7)).off + 3, none⟩ = some (.int .i64 ((rd_T48 t421 x12_3).f2)) ∧ w'.cell? ⟨(ad424.add ((x12_3).toNat * 7)).block, (ad424.add ((x12_3).toNat * 7)).off + 4, none⟩ = some (.int .i64 ((rd_T48 t421 x12_3).f3)) ∧ w'.cell? ⟨(ad424.add ((x12_3).toNat * 7)).block, (ad424.add ((x12_3).toNat * 7)).off + 5, none⟩ = some (.int .i64 ((rd_T48 t421 x12_3).f4)) ∧ w'.cell? ⟨(ad424.add ((x12_3).toNat * 7)).block, (ad424.add ((x12_3).toNat * 7)).off + 6, none⟩ = some (.bool ((rd_T48 t421 x12_3).f5))) (ds := []) #[z,z,z,z,z,z,z,z,z,z,z,z,z,z,z,z,z,z,z,z,z,z,z,z,z,z,z,z,z,z,z,z,z,z,z,z,z,z,z,z,z,z,z,z] (by kernel_rfl) rfl rfl ⟨(blk_cell BK407.out 0).trans rfl, (blk_cell BK407.out 1).trans rfl, hx424_0, hx424_1, hx424_2, hx424_3, hx424_4, hx424_5, hx424_6, hx426_0, hx426_1, hx426_2, hx426_3, hx426_4, hx426_5, hx426_6, hx427_0, hx427_1, hx427_2, hx427_3, hx427_4, hx427_5, hx427_6, hx429_0, hx429_1, hx429_2, hx429_3, hx429_4, hx429_5, hx429_6, hx430_0, hx430_1, hx430_2, hx430_3, hx430_4, hx430_5, hx430_6⟩ (fun hHeld => ?_); refine with_tabW laws_FnLent.tab19 laws_FnLent.bits19 (fun HT_ HW_ => ?_)
                                generalize wr.drew = w55 at HO_7 HO_11 BK407 HB hx424_0 hx424_1 hx424_2 hx424_3 hx424_4 hx424_5 hx424_6 hx426_0 hx426_1 hx426_2 hx426_3 hx426_4 hx426_5 hx426_6 hx427_0 hx427_1 hx427_2 hx427_3 hx427_4 hx427_5 hx427_6 hx429_0 hx429_1 hx429_2 hx429_3 hx429_4 hx429_5 hx429_6 hx430_0 hx430_1 hx430_2 hx430_3 hx430_4 hx430_5 hx430_6 hHeld ⊢
                                refine pure_ (i := 0) (N := some 85) (v := ?_) (a' := ?_) #[o,z,z,z,z,z,z,z,z,z,z,z,z,z,z,z,z,z,z,z,z,z,z,z,z,z,z,z,z,z,z,z,z,z,z,z,z,z,z,z,z,z,z,z] rfl rfl (any_of HT_.out (by kernel_rfl)) (fun _ _ _ h => h) (Or.inl ⟨by rfl, ?_⟩) ?_ ?_
                                rotate_left
                                · intro w'
                                  go_simp
                                  with_reducible rfl
                                rotate_left
                                · simp only [Act.put, qa, qb, qc, i64_w, i32_w]
                                  rfl
                                refine pure_ (i := 1) (N := some 86) (v := ?_) (a' := ?_) #[o,o,z,z,z,z,z,z,z,z,z,z,z,z,z,z,z,z,z,z,z,z,z,z,z,z,z,z,z,z,z,z,z,z,z,z,z,z,z,z,z,z,z,z] rfl rfl (any_of HT_.out (by kernel_rfl)) (fun _ _ _ h => h) (Or.inl ⟨by rfl, ?_⟩) ?_ ?_
                                rotate_left
                                · intro w'
                                  go_simp
                                  with_reducible rfl
                                rotate_left
                                · simp only [Act.put, qa, qb, qc, i64_w, i32_w]
                                  rfl
                                refine pure_ (i := 2) (N := some 87) (v := ?_) (a' := ?_) #[o,o,o,z,z,z,z,z,z,z,z,z,z,z,z,z,z,z,z,z,z,z,z,z,z,z,z,z,z,z,z,z,z,z,z,z,z,z,z,z,z,z,z,z] rfl rfl (any_of HT_.out (by kernel_rfl)) (fun _ _ _ h => h) (Or.inl ⟨by rfl, ?_⟩) ?_ ?_
                                rotate_left
                                · intro w'
                                  go_simp
                                  with_reducible rfl
                                rotate_left
                                · simp only [Act.put, qa, qb, qc, i64_w, i32_w]
                                  rfl
                                refine take_ (i := 3) (N := some 88) (v := ?_) (a' := ?_) #[o,o,o,o,z,z,z,z,z,z,z,z,z,z,z,z,z,z,z,z,z,z,z,z,z,z,z,z,z,z,z,z,z,z,z,z,z,z,z,z,z,z,z,z] rfl rfl (take_ofW HT_.out HW_.out (by kernel_rfl)) (fun _ _ _ h => h) (Or.inl ⟨by rfl, ?_⟩) hHeld ?_ ?_
                                rotate_left
                                · rintro w' ⟨s0, s1, s2, s3, s4, s5, s6, s7, s8, s9, s10, s11, s12, s13, s14, s15, s16, s17, s18, s19, s20, s21, s22, s23, s24, s25, s26, s27, s28, s29, s30, s31, s32, s33, s34, s35, s36⟩
                                  go_simp
                                  with_reducible rfl
                                rotate_left
                                · simp only [Act.put, qa, qb, qc, i64_w, i32_w]
                                  rfl
                                refine one_ (i := 4) (N := some 89) #[o,o,o,o,o,z,z,z,z,z,z,z,z,z,z,z,z,z,z,z,z,z,z,z,z,z,z,z,z,z,z,z,z,z,z,z,z,z,z,z,z,z,z,z] rfl rfl (one_of HT_.out (by kernel_rfl)) (by decide) (fun K hK => ?_)
                                refine goes_ Try.func47 (by kernel_rfl) rfl #[.agg #[.int .i64 ((rd_T48 t421 x12_3).f0), .int .i64 ((rd_T48 t421 x12_3).f1.f0), .int .i64 ((rd_T48 t421 x12_3).f1.f1), .int .i64 ((rd_T48 t421 x12_3).f2), .int .i64 ((rd_T48 t421 x12_3).f3), .int .i64 ((rd_T48 t421 x12_3).f4), .bool ((rd_T48 t421 x12_3).f5)]] (by rfl) rfl rfl (by (try simp only [List.map_toArray, List.map_cons, List.map_nil]); first | done | rfl | (simp only [List.length_drop, List.length_take]; rfl)) ?_
                                with_reducible refine (impl_IsLent.calls ((rd_T48 t421 x12_3).f0) ((rd_T48 t421 x12_3).f1.f0) ((rd_T48 t421 x12_3).f1.f1) ((rd_T48 t421 x12_3).f2) ((rd_T48 t421 x12_3).f3) ((rd_T48 t421 x12_3).f4) ((rd_T48 t421 x12_3).f5) true _ A48.out).mono ?_
                                rintro e w56 ⟨rfl, hb⟩
                                have HS2_ := (hb.cell (World.block_lt_of_cell? _ _ (hHeld.2.2.1))).trans (hHeld.2.2.1)
                                have HS3_ := (hb.cell (World.block_lt_of_cell? _ _ (hHeld.2.2.2.1))).trans (hHeld.2.2.2.1)
                                have HS4_ := (hb.cell (World.block_lt_of_cell? _ _ (hHeld.2.2.2.2.1))).trans (hHeld.2.2.2.2.1)
                                have HS5_ := (hb.cell (World.block_lt_of_cell? _ _ (hHeld.2.2.2.2.2.1))).trans (hHeld.2.2.2.2.2.1)
                                have HS6_ := (hb.cell (World.block_lt_of_cell? _ _ (hHeld.2.2.2.2.2.2.1))).trans (hHeld.2.2.2.2.2.2.1)
                                have HS7_ := (hb.cell (World.block_lt_of_cell? _ _ (hHeld.2.2.2.2.2.2.2.1))).trans (hHeld.2.2.2.2.2.2.2.1)
                                have HS8_ := (hb.cell (World.block_lt_of_cell? _ _ (hHeld.2.2.2.2.2.2.2.2.1))).trans (hHeld.2.2.2.2.2.2.2.2.1)
                                have HS9_ := (hb.cell (World.block_lt_of_cell? _ _ (hHeld.2.2.2.2.2.2.2.2.2.1))).trans (hHeld.2.2.2.2.2.2.2.2.2.1)
                                have HS10_ := (hb.cell (World.block_lt_of_cell? _ _ (hHeld.2.2.2.2.2.2.2.2.2.2.1))).trans (hHeld.2.2.2.2.2.2.2.2.2.2.1)
                                have HS11_ := (hb.cell (World.block_lt_of_cell? _ _ (hHeld.2.2.2.2.2.2.2.2.2.2.2.1))).trans (hHeld.2.2.2.2.2.2.2.2.2.2.2.1)
                                have HS12_ := (hb.cell (World.block_lt_of_cell? _ _ (hHeld.2.2.2.2.2.2.2.2.2.2.2.2.1))).trans (hHeld.2.2.2.2.2.2.2.2.2.2.2.2.1)
                                have HS13_ := (hb.cell (World.block_lt_of_cell? _ _ (hHeld.2.2.2.2.2.2.2.2.2.2.2.2.2.1))).trans (hHeld.2.2.2.2.2.2.2.2.2.2.2.2.2.1)
                                have HS14_ := (hb.cell (World.block_lt_of_cell? _ _ (hHeld.2.2.2.2.2.2.2.2.2.2.2.2.2.2.1))).trans (hHeld.2.2.2.2.2.2.2.2.2.2.2.2.2.2.1)
                                have HS15_ := (hb.cell (World.block_lt_of_cell? _ _ (hHeld.2.2.2.2.2.2.2.2.2.2.2.2.2.2.2.1))).trans (hHeld.2.2.2.2.2.2.2.2.2.2.2.2.2.2.2.1)
                                have HS16_ := (hb.cell (World.block_lt_of_cell? _ _ (hHeld.2.2.2.2.2.2.2.2.2.2.2.2.2.2.2.2.1))).trans (hHeld.2.2.2.2.2.2.2.2.2.2.2.2.2.2.2.2.1)
                                have HS17_ := (hb.cell (World.block_lt_of_cell? _ _ (hHeld.2.2.2.2.2.2.2.2.2.2.2.2.2.2.2.2.2.1))).trans (hHeld.2.2.2.2.2.2.2.2.2.2.2.2.2.2.2.2.2.1)
                                have HS18_ := (hb.cell (World.block_lt_of_cell? _ _ (hHeld.2.2.2.2.2.2.2.2.2.2.2.2.2.2.2.2.2.2.1))).trans (hHeld.2.2.2.2.2.2.2.2.2.2.2.2.2.2.2.2.2.2.1)
                                have HS19_ := (hb.cell (World.block_lt_of_cell? _ _ (hHeld.2.2.2.2.2.2.2.2.2.2.2.2.2.2.2.2.2.2.2.1))).trans (hHeld.2.2.2.2.2.2.2.2.2.2.2.2.2.2.2.2.2.2.2.1)
                                have HS20_ := (hb.cell (World.block_lt_of_cell? _ _ (hHeld.2.2.2.2.2.2.2.2.2.2.2.2.2.2.2.2.2.2.2.2.1))).trans (hHeld.2.2.2.2.2.2.2.2.2.2.2.2.2.2.2.2.2.2.2.2.1)
                                have HS21_ := (hb.cell (World.block_lt_of_cell? _ _ (hHeld.2.2.2.2.2.2.2.2.2.2.2.2.2.2.2.2.2.2.2.2.2.1))).trans (hHeld.2.2.2.2.2.2.2.2.2.2.2.2.2.2.2.2.2.2.2.2.2.1)
                                have HS22_ := (hb.cell (World.block_lt_of_cell? _ _ (hHeld.2.2.2.2.2.2.2.2.2.2.2.2.2.2.2.2.2.2.2.2.2.2.1))).trans (hHeld.2.2.2.2.2.2.2.2.2.2.2.2.2.2.2.2.2.2.2.2.2.2.1)
                                have HS23_ := (hb.cell (World.block_lt_of_cell? _ _ (hHeld.2.2.2.2.2.2.2.2.2.2.2.2.2.2.2.2.2.2.2.2.2.2.2.1))).trans (hHeld.2.2.2.2.2.2.2.2.2.2.2.2.2.2.2.2.2.2.2.2.2.2.2.1)
                                have HS24_ := (hb.cell (World.block_lt_of_cell? _ _ (hHeld.2.2.2.2.2.2.2.2.2.2.2.2.2.2.2.2.2.2.2.2.2.2.2.2.1))).trans (hHeld.2.2.2.2.2.2.2.2.2.2.2.2.2.2.2.2.2.2.2.2.2.2.2.2.1)
                                have HS25_ := (hb.cell (World.block_lt_of_cell? _ _ (hHeld.2.2.2.2.2.2.2.2.2.2.2.2.2.2.2.2.2.2.2.2.2.2.2.2.2.1))).trans (hHeld.2.2.2.2.2.2.2.2.2.2.2.2.2.2.2.2.2.2.2.2.2.2.2.2.2.1)
                                have HS26_ := (hb.cell (World.block_lt_of_cell? _ _ (hHeld.2.2.2.2.2.2.2.2.2.2.2.2.2.2.2.2.2.2.2.2.2.2.2.2.2.2.1))).trans (hHeld.2.2.2.2.2.2.2.2.2.2.2.2.2.2.2.2.2.2.2.2.2.2.2.2.2.2.1)
                                have HS27_ := (hb.cell (World.block_lt_of_cell? _ _ (hHeld.2.2.2.2.2.2.2.2.2.2.2.2.2.2.2.2.2.2.2.2.2.2.2.2.2.2.2.1))).trans (hHeld.2.2.2.2.2.2.2.2.2.2.2.2.2.2.2.2.2.2.2.2.2.2.2.2.2.2.2.1)
                                have HS28_ := (hb.cell (World.block_lt_of_cell? _ _ (hHeld.2.2.2.2.2.2.2.2.2.2.2.2.2.2.2.2.2.2.2.2.2.2.2.2.2.2.2.2.1))).trans (hHeld.2.2.2.2.2.2.2.2.2.2.2.2.2.2.2.2.2.2.2.2.2.2.2.2.2.2.2.2.1)
                                have HS29_ := (hb.cell (World.block_lt_of_cell? _ _ (hHeld.2.2.2.2.2.2.2.2.2.2.2.2.2.2.2.2.2.2.2.2.2.2.2.2.2.2.2.2.2.1))).trans (hHeld.2.2.2.2.2.2.2.2.2.2.2.2.2.2.2.2.2.2.2.2.2.2.2.2.2.2.2.2.2.1)
                                have HS30_ := (hb.cell (World.block_lt_of_cell? _ _ (hHeld.2.2.2.2.2.2.2.2.2.2.2.2.2.2.2.2.2.2.2.2.2.2.2.2.2.2.2.2.2.2.1))).trans (hHeld.2.2.2.2.2.2.2.2.2.2.2.2.2.2.2.2.2.2.2.2.2.2.2.2.2.2.2.2.2.2.1)
                                have HS31_ := (hb.cell (World.block_lt_of_cell? _ _ (hHeld.2.2.2.2.2.2.2.2.2.2.2.2.2.2.2.2.2.2.2.2.2.2.2.2.2.2.2.2.2.2.2.1))).trans (hHeld.2.2.2.2.2.2.2.2.2.2.2.2.2.2.2.2.2.2.2.2.2.2.2.2.2.2.2.2.2.2.2.1)
                                have HS32_ := (hb.cell (World.block_lt_of_cell? _ _ (hHeld.2.2.2.2.2.2.2.2.2.2.2.2.2.2.2.2.2.2.2.2.2.2.2.2.2.2.2.2.2.2.2.2.1))).trans (hHeld.2.2.2.2.2.2.2.2.2.2.2.2.2.2.2.2.2.2.2.2.2.2.2.2.2.2.2.2.2.2.2.2.1)
                                have HS33_ := (hb.cell (World.block_lt_of_cell? _ _ (hHeld.2.2.2.2.2.2.2.2.2.2.2.2.2.2.2.2.2.2.2.2.2.2.2.2.2.2.2.2.2.2.2.2.2.1))).trans (hHeld.2.2.2.2.2.2.2.2.2.2.2.2.2.2.2.2.2.2.2.2.2.2.2.2.2.2.2.2.2.2.2.2.2.1)
                                have HS34_ := (hb.cell (World.block_lt_of_cell? _ _ (hHeld.2.2.2.2.2.2.2.2.2.2.2.2.2.2.2.2.2.2.2.2.2.2.2.2.2.2.2.2.2.2.2.2.2.2.1))).trans (hHeld.2.2.2.2.2.2.2.2.2.2.2.2.2.2.2.2.2.2.2.2.2.2.2.2.2.2.2.2.2.2.2.2.2.2.1)
                                have HS35_ := (hb.cell (World.block_lt_of_cell? _ _ (hHeld.2.2.2.2.2.2.2.2.2.2.2.2.2.2.2.2.2.2.2.2.2.2.2.2.2.2.2.2.2.2.2.2.2.2.2.1))).trans (hHeld.2.2.2.2.2.2.2.2.2.2.2.2.2.2.2.2.2.2.2.2.2.2.2.2.2.2.2.2.2.2.2.2.2.2.2.1)
                                have HS36_ := (hb.cell (World.block_lt_of_cell? _ _ (hHeld.2.2.2.2.2.2.2.2.2.2.2.2.2.2.2.2.2.2.2.2.2.2.2.2.2.2.2.2.2.2.2.2.2.2.2.2))).trans (hHeld.2.2.2.2.2.2.2.2.2.2.2.2.2.2.2.2.2.2.2.2.2.2.2.2.2.2.2.2.2.2.2.2.2.2.2.2)
                                refine ⟨_, rfl, ?_⟩
                                replace HO_7 := am (Kd.R_below (rB HO_7.out) hb)
                                replace HO_11 := am (Kd.R_below (rB HO_11.out) hb)
                                replace BK407 := am (blk_below (bB BK407.out) hb)
                                replace HB := am (below_step (sB HB.out) hb)
                                (try clear hb)
                                (try clear hb2)
                                (try clear hk)
                                (try clear hi)
                                refine hK.out _ _ ⟨(blk_cell BK407.out 0).trans rfl, (blk_cell BK407.out 1).trans rfl, HS2_, HS3_, HS4_, HS5_, HS6_, HS7_, HS8_, HS9_, HS10_, HS11_, HS12_, HS13_, HS14_, HS15_, HS16_, HS17_, HS18_, HS19_, HS20_, HS21_, HS22_, HS23_, HS24_, HS25_, HS26_, HS27_, HS28_, HS29_, HS30_, HS31_, HS32_, HS33_, HS34_, HS35_, HS36_⟩ (fun hHeld => ?_)
                                clear hK K
                                refine norm_ (a' := ?_) ?_ ?_
                                rotate_left
                                · show Act.put _ (some 89) _ = _
                                  simp only [Act.put, qa, qb, qc, i64_w, i32_w]
                                  rfl
                                refine pure_ (i := 5) (N := some 90) (v := ?_) (a' := ?_) #[o,o,o,o,o,o,z,z,z,z,z,z,z,z,z,z,z,z,z,z,z,z,z,z,z,z,z,z,z,z,z,z,z,z,z,z,z,z,z,z,z,z,z,z] rfl rfl (any_of HT_.out (by kernel_rfl)) (fun _ _ _ h => h) (Or.inl ⟨by rfl, ?_⟩) ?_ ?_
                                rotate_left
                                · intro w'
                                  go_simp
                                  with_reducible rfl
                                rotate_left
                                · simp only [Act.put, qa, qb, qc, i64_w, i32_w]
                                  rfl
                                refine pure_ (i := 6) (N := some 91) (v := ?_) (a' := ?_) #[o,o,o,o,o,o,o,z,z,z,z,z,z,z,z,z,z,z,z,z,z,z,z,z,z,z,z,z,z,z,z,z,z,z,z,z,z,z,z,z,z,z,z,z] rfl rfl (any_of HT_.out (by kernel_rfl)) (fun _ _ _ h => h) (Or.inl ⟨by rfl, ?_⟩) ?_ ?_
                                rotate_left
                                · intro w'
                                  go_simp
                                  with_reducible rfl
                                rotate_left
                                · simp only [Act.put, qa, qb, qc, i64_w, i32_w]
                                  rfl
                                refine pure_ (i := 7) (N := some 92) (v := ?_) (a' := ?_) #[o,o,o,o,o,o,o,o,z,z,z,z,z,z,z,z,z,z,z,z,z,z,z,z,z,z,z,z,z,z,z,z,z,z,z,z,z,z,z,z,z,z,z,z] rfl rfl (any_of HT_.out (by kernel_rfl)) (fun _ _ _ h => h) (Or.inl ⟨by rfl, ?_⟩) ?_ ?_
                                rotate_left
                                · intro w'
                                  go_simp
                                  with_reducible rfl
                                rotate_left
                                · simp only [Act.put, qa, qb, qc, i64_w, i32_w]
                                  rfl
                                refine pure_ (i := 8) (N := some 93) (v := ?_) (a' := ?_) #[o,o,o,o,o,o,o,o,o,z,z,z,z,z,z,z,z,z,z,z,z,z,z,z,z,z,z,z,z,z,z,z,z,z,z,z,z,z,z,z,z,z,z,z] rfl rfl (any_of HT_.out (by kernel_rfl)) (fun _ _ _ h => h) (Or.inl ⟨by rfl, ?_⟩) ?_ ?_
                                rotate_left
                                · intro w'
                                  go_simp
                                  with_reducible rfl
                                rotate_left
                                · simp only [Act.put, qa, qb, qc, i64_w, i32_w]
                                  rfl
                                refine pure_ (i := 9) (N := some 94) (v := ?_) (a' := ?_) #[o,o,o,o,o,o,o,o,o,o,z,z,z,z,z,z,z,z,z,z,z,z,z,z,z,z,z,z,z,z,z,z,z,z,z,z,z,z,z,z,z,z,z,z] rfl rfl (any_of HT_.out (by kernel_rfl)) (fun _ _ _ h => h) (Or.inl ⟨by rfl, ?_⟩) ?_ ?_
                                rotate_left
                                · intro w'
                                  go_simp
                                  with_reducible rfl
                                rotate_left
                                · simp only [Act.put, qa, qb, qc, i64_w, i32_w]
                                  rfl
                                refine pure_ (i := 11) (N := some 96) (v := ?_) (a' := ?_) #[o,o,o,o,o,o,o,o,o,o,z,o,z,z,z,z,z,z,z,z,z,z,z,z,z,z,z,z,z,z,z,z,z,z,z,z,z,z,z,z,z,z,z,z] rfl rfl (any_of HT_.out (by kernel_rfl)) (fun _ _ _ h => h) (Or.inl ⟨by rfl, ?_⟩) ?_ ?_
                                rotate_left
                                · intro w'
                                  go_simp
                                  with_reducible rfl
                                rotate_left
                                · simp only [Act.put, qa, qb, qc, i64_w, i32_w]
                                  rfl
                                refine pure_ (i := 13) (N := some 98) (v := ?_) (a' := ?_) #[o,o,o,o,o,o,o,o,o,o,z,o,z,o,z,z,z,z,z,z,z,z,z,z,z,z,z,z,z,z,z,z,z,z,z,z,z,z,z,z,z,z,z,z] rfl rfl (any_of HT_.out (by kernel_rfl)) (fun _ _ _ h => h) (Or.inl ⟨by rfl, ?_⟩) ?_ ?_
                                rotate_left
                                · intro w'
                                  go_simp
                                  with_reducible rfl
                                rotate_left
                                · simp only [Act.put, qa, qb, qc, i64_w, i32_w]
                                  rfl
                                refine pure_ (i := 14) (N := some 99) (v := ?_) (a' := ?_) #[o,o,o,o,o,o,o,o,o,o,z,o,z,o,o,z,z,z,z,z,z,z,z,z,z,z,z,z,z,z,z,z,z,z,z,z,z,z,z,z,z,z,z,z] rfl rfl (any_of HT_.out (by kernel_rfl)) (fun _ _ _ h => h) (Or.inl ⟨by rfl, ?_⟩) ?_ ?_
                                rotate_left
                                · intro w'
                                  go_simp
                                  with_reducible rfl
                                rotate_left
                                · simp only [Act.put, qa, qb, qc, i64_w, i32_w]
                                  rfl
                                refine pure_ (i := 15) (N := some 100) (v := ?_) (a' := ?_) #[o,o,o,o,o,o,o,o,o,o,z,o,z,o,o,o,z,z,z,z,z,z,z,z,z,z,z,z,z,z,z,z,z,z,z,z,z,z,z,z,z,z,z,z] rfl rfl (any_of HT_.out (by kernel_rfl)) (fun _ _ _ h => h) (Or.inl ⟨by rfl, ?_⟩) ?_ ?_
                                rotate_left
                                · intro w'
                                  go_simp
                                  with_reducible rfl
                                rotate_left
                                · simp only [Act.put, qa, qb, qc, i64_w, i32_w]
                                  rfl
                                refine pure_ (i := 16) (N := some 101) (v := ?_) (a' := ?_) #[o,o,o,o,o,o,o,o,o,o,z,o,z,o,o,o,o,z,z,z,z,z,z,z,z,z,z,z,z,z,z,z,z,z,z,z,z,z,z,z,z,z,z,z] rfl rfl (any_of HT_.out (by kernel_rfl)) (fun _ _ _ h => h) (Or.inl ⟨by rfl, ?_⟩) ?_ ?_
                                rotate_left
                                · intro w'
                                  go_simp
                                  with_reducible rfl
                                rotate_left
                                · simp only [Act.put, qa, qb, qc, i64_w, i32_w]
                                  rfl
                                refine pure_ (i := 18) (N := some 103) (v := ?_) (a' := ?_) #[o,o,o,o,o,o,o,o,o,o,z,o,z,o,o,o,o,z,o,z,z,z,z,z,z,z,z,z,z,z,z,z,z,z,z,z,z,z,z,z,z,z,z,z] rfl rfl (any_of HT_.out (by kernel_rfl)) (fun _ _ _ h => h) (Or.inl ⟨by rfl, ?_⟩) ?_ ?_
                                rotate_left
                                · intro w'
                                  go_simp
                                  with_reducible rfl
                                rotate_left
                                · simp only [Act.put, qa, qb, qc, i64_w, i32_w]
                                  rfl
                                refine pure_ (i := 19) (N := some 104) (v := ?_) (a' := ?_) #[o,o,o,o,o,o,o,o,o,o,z,o,z,o,o,o,o,z,o,o,z,z,z,z,z,z,z,z,z,z,z,z,z,z,z,z,z,z,z,z,z,z,z,z] rfl rfl (any_of HT_.out (by kernel_rfl)) (fun _ _ _ h => h) (Or.inl ⟨by rfl, ?_⟩) ?_ ?_
                                rotate_left
                                · intro w'
                                  go_simp
                                  with_reducible rfl
                                rotate_left
                                · simp only [Act.put, qa, qb, qc, i64_w, i32_w]
                                  rfl
                                refine pure_ (i := 20) (N := some 105) (v := ?_) (a' := ?_) #[o,o,o,o,o,o,o,o,o,o,z,o,z,o,o,o,o,z,o,o,o,z,z,z,z,z,z,z,z,z,z,z,z,z,z,z,z,z,z,z,z,z,z,z] rfl rfl (any_of HT_.out (by kernel_rfl)) (fun _ _ _ h => h) (Or.inl ⟨by rfl, ?_⟩) ?_ ?_
                                rotate_left
                                · intro w'
                                  go_simp
                                  with_reducible rfl
                                rotate_left
                                · simp only [Act.put, qa, qb, qc, i64_w, i32_w]
                                  rfl
                                refine take_ (i := 10) (N := some 95) (v := ?_) (a' := ?_) #[o,o,o,o,o,o,o,o,o,o,o,o,z,o,o,o,o,z,o,o,o,z,z,z,z,z,z,z,z,z,z,z,z,z,z,z,z,z,z,z,z,z,z,z] rfl rfl (take_ofW HT_.out HW_.out (by kernel_rfl)) (fun _ _ _ h => h) (Or.inl ⟨by rfl, ?_⟩) hHeld ?_ ?_
                                rotate_left
                                · rintro w' ⟨s0, s1, s2, s3, s4, s5, s6, s7, s8, s9, s10, s11, s12, s13, s14, s15, s16, s17, s18, s19, s20, s21, s22, s23, s24, s25, s26, s27, s28, s29, s30, s31, s32, s33, s34, s35, s36⟩
                                  go_simp
                                  with_reducible rfl
                                rotate_left
                                · simp only [Act.put, qa, qb, qc, i64_w, i32_w]
                                  rfl
                                refine take_ (i := 12) (N := some 97) (v := ?_) (a' := ?_) #[o,o,o,o,o,o,o,o,o,o,o,o,o,o,o,o,o,z,o,o,o,z,z,z,z,z,z,z,z,z,z,z,z,z,z,z,z,z,z,z,z,z,z,z] rfl rfl (take_ofW HT_.out HW_.out (by kernel_rfl)) (fun _ _ _ h => h) (Or.inl ⟨by rfl, ?_⟩) hHeld ?_ ?_
                                rotate_left
                                · rintro w' ⟨s0, s1, s2, s3, s4, s5, s6, s7, s8, s9, s10, s11, s12, s13, s14, s15, s16, s17, s18, s19, s20, s21, s22, s23, s24, s25, s26, s27, s28, s29, s30, s31, s32, s33, s34, s35, s36⟩
                                  go_simp
                                  with_reducible rfl
                                rotate_left
                                · simp only [Act.put, qa, qb, qc, i64_w, i32_w]
                                  rfl
                                refine take_ (i := 17) (N := some 102) (v := ?_) (a' := ?_) #[o,o,o,o,o,o,o,o,o,o,o,o,o,o,o,o,o,o,o,o,o,z,z,z,z,z,z,z,z,z,z,z,z,z,z,z,z,z,z,z,z,z,z,z] rfl rfl (take_ofW HT_.out HW_.out (by kernel_rfl)) (fun _ _ _ h => h) (Or.inl ⟨by rfl, ?_⟩) hHeld ?_ ?_
                                rotate_left
                                · rintro w' ⟨s0, s1, s2, s3, s4, s5, s6, s7, s8, s9, s10, s11, s12, s13, s14, s15, s16, s17, s18, s19, s20, s21, s22, s23, s24, s25, s26, s27, s28, s29, s30, s31, s32, s33, s34, s35, s36⟩
                                  go_simp
                                  with_reducible rfl
                                rotate_left
                                · simp only [Act.put, qa, qb, qc, i64_w, i32_w]
                                  rfl
                                refine one_ (i := 21) (N := some 106) #[o,o,o,o,o,o,o,o,o,o,o,o,o,o,o,o,o,o,o,o,o,o,z,z,z,z,z,z,z,z,z,z,z,z,z,z,z,z,z,z,z,z,z,z] rfl rfl (one_of HT_.out (by kernel_rfl)) (by decide) (fun K hK => ?_)
                                refine goes_ Try.func38 (by kernel_rfl) rfl #[.agg #[.int .i64 ((rd_T48 t421 x12_3).f0), .int .i64 ((rd_T48 t421 x12_3).f1.f0), .int .i64 ((rd_T48 t421 x12_3).f1.f1), .int .i64 ((rd_T48 t421 x12_3).f2), .int .i64 ((rd_T48 t421 x12_3).f3), .int .i64 ((rd_T48 t421 x12_3).f4), .bool ((rd_T48 t421 x12_3).f5)], .int .i64 t403, .agg #[.int .i64 t404, .int .i64 t405], .int .i64 ((rd_T48 t421 x12_3).f2), .int .i64 (wrap64 ((wrap64 (t406 + 5)) + 1)), .bool true] (by rfl) rfl rfl (by (try simp only [List.map_toArray, List.map_cons, List.map_nil]); first | done | rfl | (simp only [List.length_drop, List.length_take]; rfl)) ?_
                                with_reducible refine (impl_Covers.calls ((rd_T48 t421 x12_3).f0) ((rd_T48 t421 x12_3).f1.f0) ((rd_T48 t421 x12_3).f1.f1) ((rd_T48 t421 x12_3).f2) ((rd_T48 t421 x12_3).f3) ((rd_T48 t421 x12_3).f4) ((rd_T48 t421 x12_3).f5) t403 t404 t405 ((rd_T48 t421 x12_3).f2) (wrap64 ((wrap64 (t406 + 5)) + 1)) true false _ A50.out).mono ?_
                                rintro e w57 ⟨rfl, hb⟩
                                have HS2_ := (hb.cell (World.block_lt_of_cell? _ _ (hHeld.2.2.1))).trans (hHeld.2.2.1)
                                have HS3_ := (hb.cell (World.block_lt_of_cell? _ _ (hHeld.2.2.2.1))).trans (hHeld.2.2.2.1)
                                have HS4_ := (hb.cell (World.block_lt_of_cell? _ _ (hHeld.2.2.2.2.1))).trans (hHeld.2.2.2.2.1)
                                have HS5_ := (hb.cell (World.block_lt_of_cell? _ _ (hHeld.2.2.2.2.2.1))).trans (hHeld.2.2.2.2.2.1)
                                have HS6_ := (hb.cell (World.block_lt_of_cell? _ _ (hHeld.2.2.2.2.2.2.1))).trans (hHeld.2.2.2.2.2.2.1)
                                have HS7_ := (hb.cell (World.block_lt_of_cell? _ _ (hHeld.2.2.2.2.2.2.2.1))).trans (hHeld.2.2.2.2.2.2.2.1)
                                have HS8_ := (hb.cell (World.block_lt_of_cell? _ _ (hHeld.2.2.2.2.2.2.2.2.1))).trans (hHeld.2.2.2.2.2.2.2.2.1)
                                have HS9_ := (hb.cell (World.block_lt_of_cell? _ _ (hHeld.2.2.2.2.2.2.2.2.2.1))).trans (hHeld.2.2.2.2.2.2.2.2.2.1)
                                have HS10_ := (hb.cell (World.block_lt_of_cell? _ _ (hHeld.2.2.2.2.2.2.2.2.2.2.1))).trans (hHeld.2.2.2.2.2.2.2.2.2.2.1)
                                have HS11_ := (hb.cell (World.block_lt_of_cell? _ _ (hHeld.2.2.2.2.2.2.2.2.2.2.2.1))).trans (hHeld.2.2.2.2.2.2.2.2.2.2.2.1)
                                have HS12_ := (hb.cell (World.block_lt_of_cell? _ _ (hHeld.2.2.2.2.2.2.2.2.2.2.2.2.1))).trans (hHeld.2.2.2.2.2.2.2.2.2.2.2.2.1)
                                have HS13_ := (hb.cell (World.block_lt_of_cell? _ _ (hHeld.2.2.2.2.2.2.2.2.2.2.2.2.2.1))).trans (hHeld.2.2.2.2.2.2.2.2.2.2.2.2.2.1)
                                have HS14_ := (hb.cell (World.block_lt_of_cell? _ _ (hHeld.2.2.2.2.2.2.2.2.2.2.2.2.2.2.1))).trans (hHeld.2.2.2.2.2.2.2.2.2.2.2.2.2.2.1)
                                have HS15_ := (hb.cell (World.block_lt_of_cell? _ _ (hHeld.2.2.2.2.2.2.2.2.2.2.2.2.2.2.2.1))).trans (hHeld.2.2.2.2.2.2.2.2.2.2.2.2.2.2.2.1)
                                have HS16_ := (hb.cell (World.block_lt_of_cell? _ _ (hHeld.2.2.2.2.2.2.2.2.2.2.2.2.2.2.2.2.1))).trans (hHeld.2.2.2.2.2.2.2.2.2.2.2.2.2.2.2.2.1)
                                have HS17_ := (hb.cell (World.block_lt_of_cell? _ _ (hHeld.2.2.2.2.2.2.2.2.2.2.2.2.2.2.2.2.2.1))).trans (hHeld.2.2.2.2.2.2.2.2.2.2.2.2.2.2.2.2.2.1)
                                have HS18_ := (hb.cell (World.block_lt_of_cell? _ _ (hHeld.2.2.2.2.2.2.2.2.2.2.2.2.2.2.2.2.2.2.1))).trans (hHeld.2.2.2.2.2.2.2.2.2.2.2.2.2.2.2.2.2.2.1)
                                have HS19_ := (hb.cell (World.block_lt_of_cell? _ _ (hHeld.2.2.2.2.2.2.2.2.2.2.2.2.2.2.2.2.2.2.2.1))).trans (hHeld.2.2.2.2.2.2.2.2.2.2.2.2.2.2.2.2.2.2.2.1)
                                have HS20_ := (hb.cell (World.block_lt_of_cell? _ _ (hHeld.2.2.2.2.2.2.2.2.2.2.2.2.2.2.2.2.2.2.2.2.1))).trans (hHeld.2.2.2.2.2.2.2.2.2.2.2.2.2.2.2.2.2.2.2.2.1)
                                have HS21_ := (hb.cell (World.block_lt_of_cell? _ _ (hHeld.2.2.2.2.2.2.2.2.2.2.2.2.2.2.2.2.2.2.2.2.2.1))).trans (hHeld.2.2.2.2.2.2.2.2.2.2.2.2.2.2.2.2.2.2.2.2.2.1)
                                have HS22_ := (hb.cell (World.block_lt_of_cell? _ _ (hHeld.2.2.2.2.2.2.2.2.2.2.2.2.2.2.2.2.2.2.2.2.2.2.1))).trans (hHeld.2.2.2.2.2.2.2.2.2.2.2.2.2.2.2.2.2.2.2.2.2.2.1)
                                have HS23_ := (hb.cell (World.block_lt_of_cell? _ _ (hHeld.2.2.2.2.2.2.2.2.2.2.2.2.2.2.2.2.2.2.2.2.2.2.2.1))).trans (hHeld.2.2.2.2.2.2.2.2.2.2.2.2.2.2.2.2.2.2.2.2.2.2.2.1)
                                have HS24_ := (hb.cell (World.block_lt_of_cell? _ _ (hHeld.2.2.2.2.2.2.2.2.2.2.2.2.2.2.2.2.2.2.2.2.2.2.2.2.1))).trans (hHeld.2.2.2.2.2.2.2.2.2.2.2.2.2.2.2.2.2.2.2.2.2.2.2.2.1)
                                have HS25_ := (hb.cell (World.block_lt_of_cell? _ _ (hHeld.2.2.2.2.2.2.2.2.2.2.2.2.2.2.2.2.2.2.2.2.2.2.2.2.2.1))).trans (hHeld.2.2.2.2.2.2.2.2.2.2.2.2.2.2.2.2.2.2.2.2.2.2.2.2.2.1)
                                have HS26_ := (hb.cell (World.block_lt_of_cell? _ _ (hHeld.2.2.2.2.2.2.2.2.2.2.2.2.2.2.2.2.2.2.2.2.2.2.2.2.2.2.1))).trans (hHeld.2.2.2.2.2.2.2.2.2.2.2.2.2.2.2.2.2.2.2.2.2.2.2.2.2.2.1)
                                have HS27_ := (hb.cell (World.block_lt_of_cell? _ _ (hHeld.2.2.2.2.2.2.2.2.2.2.2.2.2.2.2.2.2.2.2.2.2.2.2.2.2.2.2.1))).trans (hHeld.2.2.2.2.2.2.2.2.2.2.2.2.2.2.2.2.2.2.2.2.2.2.2.2.2.2.2.1)
                                have HS28_ := (hb.cell (World.block_lt_of_cell? _ _ (hHeld.2.2.2.2.2.2.2.2.2.2.2.2.2.2.2.2.2.2.2.2.2.2.2.2.2.2.2.2.1))).trans (hHeld.2.2.2.2.2.2.2.2.2.2.2.2.2.2.2.2.2.2.2.2.2.2.2.2.2.2.2.2.1)
                                have HS29_ := (hb.cell (World.block_lt_of_cell? _ _ (hHeld.2.2.2.2.2.2.2.2.2.2.2.2.2.2.2.2.2.2.2.2.2.2.2.2.2.2.2.2.2.1))).trans (hHeld.2.2.2.2.2.2.2.2.2.2.2.2.2.2.2.2.2.2.2.2.2.2.2.2.2.2.2.2.2.1)
                                have HS30_ := (hb.cell (World.block_lt_of_cell? _ _ (hHeld.2.2.2.2.2.2.2.2.2.2.2.2.2.2.2.2.2.2.2.2.2.2.2.2.2.2.2.2.2.2.1))).trans (hHeld.2.2.2.2.2.2.2.2.2.2.2.2.2.2.2.2.2.2.2.2.2.2.2.2.2.2.2.2.2.2.1)
                                have HS31_ := (hb.cell (World.block_lt_of_cell? _ _ (hHeld.2.2.2.2.2.2.2.2.2.2.2.2.2.2.2.2.2.2.2.2.2.2.2.2.2.2.2.2.2.2.2.1))).trans (hHeld.2.2.2.2.2.2.2.2.2.2.2.2.2.2.2.2.2.2.2.2.2.2.2.2.2.2.2.2.2.2.2.1)
                                have HS32_ := (hb.cell (World.block_lt_of_cell? _ _ (hHeld.2.2.2.2.2.2.2.2.2.2.2.2.2.2.2.2.2.2.2.2.2.2.2.2.2.2.2.2.2.2.2.2.1))).trans (hHeld.2.2.2.2.2.2.2.2.2.2.2.2.2.2.2.2.2.2.2.2.2.2.2.2.2.2.2.2.2.2.2.2.1)
                                have HS33_ := (hb.cell (World.block_lt_of_cell? _ _ (hHeld.2.2.2.2.2.2.2.2.2.2.2.2.2.2.2.2.2.2.2.2.2.2.2.2.2.2.2.2.2.2.2.2.2.1))).trans (hHeld.2.2.2.2.2.2.2.2.2.2.2.2.2.2.2.2.2.2.2.2.2.2.2.2.2.2.2.2.2.2.2.2.2.1)
                                have HS34_ := (hb.cell (World.block_lt_of_cell? _ _ (hHeld.2.2.2.2.2.2.2.2.2.2.2.2.2.2.2.2.2.2.2.2.2.2.2.2.2.2.2.2.2.2.2.2.2.2.1))).trans (hHeld.2.2.2.2.2.2.2.2.2.2.2.2.2.2.2.2.2.2.2.2.2.2.2.2.2.2.2.2.2.2.2.2.2.2.1)
                                have HS35_ := (hb.cell (World.block_lt_of_cell? _ _ (hHeld.2.2.2.2.2.2.2.2.2.2.2.2.2.2.2.2.2.2.2.2.2.2.2.2.2.2.2.2.2.2.2.2.2.2.2.1))).trans (hHeld.2.2.2.2.2.2.2.2.2.2.2.2.2.2.2.2.2.2.2.2.2.2.2.2.2.2.2.2.2.2.2.2.2.2.2.1)
                                have HS36_ := (hb.cell (World.block_lt_of_cell? _ _ (hHeld.2.2.2.2.2.2.2.2.2.2.2.2.2.2.2.2.2.2.2.2.2.2.2.2.2.2.2.2.2.2.2.2.2.2.2.2))).trans (hHeld.2.2.2.2.2.2.2.2.2.2.2.2.2.2.2.2.2.2.2.2.2.2.2.2.2.2.2.2.2.2.2.2.2.2.2.2)
                                refine ⟨_, rfl, ?_⟩
                                replace HO_7 := am (Kd.R_below (rB HO_7.out) hb)
                                replace HO_11 := am (Kd.R_below (rB HO_11.out) hb)
                                replace BK407 := am (blk_below (bB BK407.out) hb)
                                replace HB := am (below_step (sB HB.out) hb)
                                (try clear hb)
                                (try clear hb2)
                                (try clear hk)
                                (try clear hi)
                                refine hK.out _ _ ⟨(blk_cell BK407.out 0).trans rfl, (blk_cell BK407.out 1).trans rfl, HS2_, HS3_, HS4_, HS5_, HS6_, HS7_, HS8_, HS9_, HS10_, HS11_, HS12_, HS13_, HS14_, HS15_, HS16_, HS17_, HS18_, HS19_, HS20_, HS21_, HS22_, HS23_, HS24_, HS25_, HS26_, HS27_, HS28_, HS29_, HS30_, HS31_, HS32_, HS33_, HS34_, HS35_, HS36_⟩ (fun hHeld => ?_)
                                clear hK K
                                refine norm_ (a' := ?_) ?_ ?_
                                rotate_left
                                · show Act.put _ (some 106) _ = _
                                  simp only [Act.put, qa, qb, qc, i64_w, i32_w]
                                  rfl
                                refine pure_ (i := 22) (N := some 107) (v := ?_) (a' := ?_) #[o,o,o,o,o,o,o,o,o,o,o,o,o,o,o,o,o,o,o,o,o,o,o,z,z,z,z,z,z,z,z,z,z,z,z,z,z,z,z,z,z,z,z,z] rfl rfl (any_of HT_.out (by kernel_rfl)) (fun _ _ _ h => h) (Or.inl ⟨by rfl, ?_⟩) ?_ ?_
                                rotate_left
                                · intro w'
                                  go_simp
                                  with_reducible rfl
                                rotate_left
                                · simp only [Act.put, qa, qb, qc, i64_w, i32_w]
                                  rfl
                                refine pure_ (i := 23) (N := some 108) (v := ?_) (a' := ?_) #[o,o,o,o,o,o,o,o,o,o,o,o,o,o,o,o,o,o,o,o,o,o,o,o,z,z,z,z,z,z,z,z,z,z,z,z,z,z,z,z,z,z,z,z] rfl rfl (any_of HT_.out (by kernel_rfl)) (fun _ _ _ h => h) (Or.inl ⟨by rfl, ?_⟩) ?_ ?_
                                rotate_left
                                · intro w'
                                  go_simp
                                  with_reducible rfl
                                rotate_left
                                · simp only [Act.put, qa, qb, qc, i64_w, i32_w]
                                  rfl
                                refine pure_ (i := 24) (N := some 109) (v := ?_) (a' := ?_) #[o,o,o,o,o,o,o,o,o,o,o,o,o,o,o,o,o,o,o,o,o,o,o,o,o,z,z,z,z,z,z,z,z,z,z,z,z,z,z,z,z,z,z,z] rfl rfl (any_of HT_.out (by kernel_rfl)) (fun _ _ _ h => h) (Or.inl ⟨by rfl, ?_⟩) ?_ ?_
                                rotate_left
                                · intro w'
                                  go_simp
                                  with_reducible rfl
                                rotate_left
                                · simp only [Act.put, qa, qb, qc, i64_w, i32_w]
                                  rfl
                                refine pure_ (i := 25) (N := some 110) (v := ?_) (a' := ?_) #[o,o,o,o,o,o,o,o,o,o,o,o,o,o,o,o,o,o,o,o,o,o,o,o,o,o,z,z,z,z,z,z,z,z,z,z,z,z,z,z,z,z,z,z] rfl rfl (any_of HT_.out (by kernel_rfl)) (fun _ _ _ h => h) (Or.inl ⟨by rfl, ?_⟩) ?_ ?_
                                rotate_left
                                · intro w'
                                  go_simp
                                  with_reducible rfl
                                rotate_left
                                · simp only [Act.put, qa, qb, qc, i64_w, i32_w]
                                  rfl
                                refine pure_ (i := 26) (N := some 111) (v := ?_) (a' := ?_) #[o,o,o,o,o,o,o,o,o,o,o,o,o,o,o,o,o,o,o,o,o,o,o,o,o,o,o,z,z,z,z,z,z,z,z,z,z,z,z,z,z,z,z,z] rfl rfl (any_of HT_.out (by kernel_rfl)) (fun _ _ _ h => h) (Or.inl ⟨by rfl, ?_⟩) ?_ ?_
                                rotate_left
                                · intro w'
                                  go_simp
                                  with_reducible rfl
                                rotate_left
                                · simp only [Act.put, qa, qb, qc, i64_w, i32_w]
                                  rfl
                                refine pure_ (i := 28) (N := some 113) (v := ?_) (a' := ?_) #[o,o,o,o,o,o,o,o,o,o,o,o,o,o,o,o,o,o,o,o,o,o,o,o,o,o,o,z,o,z,z,z,z,z,z,z,z,z,z,z,z,z,z,z] rfl rfl (any_of HT_.out (by kernel_rfl)) (fun _ _ _ h => h) (Or.inl ⟨by rfl, ?_⟩) ?_ ?_
                                rotate_left
                                · intro w'
                                  go_simp
                                  with_reducible rfl
                                rotate_left
                                · simp only [Act.put, qa, qb, qc, i64_w, i32_w]
                                  rfl
                                refine pure_ (i := 29) (N := some 114) (v := ?_) (a' := ?_) #[o,o,o,o,o,o,o,o,o,o,o,o,o,o,o,o,o,o,o,o,o,o,o,o,o,o,o,z,o,o,z,z,z,z,z,z,z,z,z,z,z,z,z,z] rfl rfl (any_of HT_.out (by kernel_rfl)) (fun _ _ _ h => h) (Or.inl ⟨by rfl, ?_⟩) ?_ ?_
                                rotate_left
                                · intro w'
                                  go_simp
                                  with_reducible rfl
                                rotate_left
                                · simp only [Act.put, qa, qb, qc, i64_w, i32_w]
                                  rfl
                                refine pure_ (i := 31) (N := some 116) (v := ?_) (a' := ?_) #[o,o,o,o,o,o,o,o,o,o,o,o,o,o,o,o,o,o,o,o,o,o,o,o,o,o,o,z,o,o,z,o,z,z,z,z,z,z,z,z,z,z,z,z] rfl rfl (any_of HT_.out (by kernel_rfl)) (fun _ _ _ h => h) (Or.inl ⟨by rfl, ?_⟩) ?_ ?_
                                rotate_left
                                · intro w'
                                  go_simp
                                  with_reducible rfl
                                rotate_left
                                · simp only [Act.put, qa, qb, qc, i64_w, i32_w]
                                  rfl
                                refine pure_ (i := 36) (N := some 121) (v := ?_) (a' := ?_) #[o,o,o,o,o,o,o,o,o,o,o,o,o,o,o,o,o,o,o,o,o,o,o,o,o,o,o,z,o,o,z,o,z,z,z,z,o,z,z,z,z,z,z,z] rfl rfl (any_of HT_.out (by kernel_rfl)) (fun _ _ _ h => h) (Or.inl ⟨by rfl, ?_⟩) ?_ ?_
                                rotate_left
                                · intro w'
                                  go_simp
                                  with_reducible rfl
                                rotate_left
                                · simp only [Act.put, qa, qb, qc, i64_w, i32_w]
                                  rfl
                                refine pure_ (i := 37) (N := some 122) (v := ?_) (a' := ?_) #[o,o,o,o,o,o,o,o,o,o,o,o,o,o,o,o,o,o,o,o,o,o,o,o,o,o,o,z,o,o,z,o,z,z,z,z,o,o,z,z,z,z,z,z] rfl rfl (any_of HT_.out (by kernel_rfl)) (fun _ _ _ h => h) (Or.inl ⟨by rfl, ?_⟩) ?_ ?_
                                rotate_left
                                · intro w'
                                  go_simp
                                  with_reducible rfl
                                rotate_left
                                · simp only [Act.put, qa, qb, qc, i64_w, i32_w]
                                  rfl
                                refine pure_ (i := 38) (N := some 123) (v := ?_) (a' := ?_) #[o,o,o,o,o,o,o,o,o,o,o,o,o,o,o,o,o,o,o,o,o,o,o,o,o,o,o,z,o,o,z,o,z,z,z,z,o,o,o,z,z,z,z,z] rfl rfl (any_of HT_.out (by kernel_rfl)) (fun _ _ _ h => h) (Or.inl ⟨by rfl, ?_⟩) ?_ ?_
                                rotate_left
                                · intro w'
                                  go_simp
                                  with_reducible rfl
                                rotate_left
                                · simp only [Act.put, qa, qb, qc, i64_w, i32_w]
                                  rfl
                                refine pure_ (i := 39) (N := some 124) (v := ?_) (a' := ?_) #[o,o,o,o,o,o,o,o,o,o,o,o,o,o,o,o,o,o,o,o,o,o,o,o,o,o,o,z,o,o,z,o,z,z,z,z,o,o,o,o,z,z,z,z] rfl rfl (any_of HT_.out (by kernel_rfl)) (fun _ _ _ h => h) (Or.inl ⟨by rfl, ?_⟩) ?_ ?_
                                rotate_left
                                · intro w'
                                  go_simp
                                  with_reducible rfl
                                rotate_left
                                · simp only [Act.put, qa, qb, qc, i64_w, i32_w]
                                  rfl
                                refine pure_ (i := 41) (N := some 126) (v := ?_) (a' := ?_) #[o,o,o,o,o,o,o,o,o,o,o,o,o,o,o,o,o,o,o,o,o,o,o,o,o,o,o,z,o,o,z,o,z,z,z,z,o,o,o,o,z,o,z,z] rfl rfl (any_of HT_.out (by kernel_rfl)) (fun _ _ _ h => h) (Or.inl ⟨by rfl, ?_⟩) ?_ ?_
                                rotate_left
                                · intro w'
                                  go_simp
                                  with_reducible rfl
                                rotate_left
                                · simp only [Act.put, qa, qb, qc, i64_w, i32_w]
                                  rfl
                                refine take_ (i := 27) (N := some 112) (v := ?_) (a' := ?_) #[o,o,o,o,o,o,o,o,o,o,o,o,o,o,o,o,o,o,o,o,o,o,o,o,o,o,o,o,o,o,z,o,z,z,z,z,o,o,o,o,z,o,z,z] rfl rfl (take_ofW HT_.out HW_.out (by kernel_rfl)) (fun _ _ _ h => h) (Or.inl ⟨by rfl, ?_⟩) hHeld ?_ ?_
                                rotate_left
                                · rintro w' ⟨s0, s1, s2, s3, s4, s5, s6, s7, s8, s9, s10, s11, s12, s13, s14, s15, s16, s17, s18, s19, s20, s21, s22, s23, s24, s25, s26, s27, s28, s29, s30, s31, s32, s33, s34, s35, s36⟩
                                  go_simp
                                  with_reducible rfl
                                rotate_left
                                · simp only [Act.put, qa, qb, qc, i64_w, i32_w]
                                  rfl
                                refine take_ (i := 30) (N := some 115) (v := ?_) (a' := ?_) #[o,o,o,o,o,o,o,o,o,o,o,o,o,o,o,o,o,o,o,o,o,o,o,o,o,o,o,o,o,o,o,o,z,z,z,z,o,o,o,o,z,o,z,z] rfl rfl (take_ofW HT_.out HW_.out (by kernel_rfl)) (fun _ _ _ h => h) (Or.inl ⟨by rfl, ?_⟩) hHeld ?_ ?_
                                rotate_left
                                · rintro w' ⟨s0, s1, s2, s3, s4, s5, s6, s7, s8, s9, s10, s11, s12, s13, s14, s15, s16, s17, s18, s19, s20, s21, s22, s23, s24, s25, s26, s27, s28, s29, s30, s31, s32, s33, s34, s35, s36⟩
                                  go_simp
                                  with_reducible rfl
                                rotate_left
                                · simp only [Act.put, qa, qb, qc, i64_w, i32_w]
                                  rfl
                                refine take_ (i := 32) (N := some 117) (v := ?_) (a' := ?_) #[o,o,o,o,o,o,o,o,o,o,o,o,o,o,o,o,o,o,o,o,o,o,o,o,o,o,o,o,o,o,o,o,o,z,z,z,o,o,o,o,z,o,z,z] rfl rfl (take_ofW HT_.out HW_.out (by kernel_rfl)) (fun _ _ _ h => h) (Or.inl ⟨by rfl, ?_⟩) hHeld ?_ ?_
                                rotate_left
                                · rintro w' ⟨s0, s1, s2, s3, s4, s5, s6, s7, s8, s9, s10, s11, s12, s13, s14, s15, s16, s17, s18, s19, s20, s21, s22, s23, s24, s25, s26, s27, s28, s29, s30, s31, s32, s33, s34, s35, s36⟩
                                  go_simp
                                  with_reducible rfl
                                rotate_left
                                · simp only [Act.put, qa, qb, qc, i64_w, i32_w]
                                  rfl
                                refine pure_ (i := 33) (N := some 118) (v := ?_) (a' := ?_) #[o,o,o,o,o,o,o,o,o,o,o,o,o,o,o,o,o,o,o,o,o,o,o,o,o,o,o,o,o,o,o,o,o,o,z,z,o,o,o,o,z,o,z,z] rfl rfl (any_of HT_.out (by kernel_rfl)) (fun _ _ _ h => h) (Or.inl ⟨by rfl, ?_⟩) ?_ ?_
                                rotate_left
                                · intro w'
                                  go_simp
                                  with_reducible rfl
                                rotate_left
                                · simp only [Act.put, qa, qb, qc, i64_w, i32_w]
                                  rfl
                                refine pure_ (i := 34) (N := some 119) (v := ?_) (a' := ?_) #[o,o,o,o,o,o,o,o,o,o,o,o,o,o,o,o,o,o,o,o,o,o,o,o,o,o,o,o,o,o,o,o,o,o,o,z,o,o,o,o,z,o,z,z] rfl rfl (any_of HT_.out (by kernel_rfl)) (fun _ _ _ h => h) (Or.inl ⟨by rfl, ?_⟩) ?_ ?_
                                rotate_left
                                · intro w'
                                  go_simp
                                  with_reducible rfl
                                rotate_left
                                · simp only [Act.put, qa, qb, qc, i64_w, i32_w]
                                  rfl
                                refine pure_ (i := 35) (N := some 120) (v := ?_) (a' := ?_) #[o,o,o,o,o,o,o,o,o,o,o,o,o,o,o,o,o,o,o,o,o,o,o,o,o,o,o,o,o,o,o,o,o,o,o,o,o,o,o,o,z,o,z,z] rfl rfl (any_of HT_.out (by kernel_rfl)) (fun _ _ _ h => h) (Or.inl ⟨by rfl, ?_⟩) ?_ ?_
                                rotate_left
                                · intro w'
                                  go_simp
                                  with_reducible rfl
                                rotate_left
                                · simp only [Act.put, qa, qb, qc, i64_w, i32_w]
                                  rfl
                                refine take_ (i := 40) (N := some 125) (v := ?_) (a' := ?_) #[o,o,o,o,o,o,o,o,o,o,o,o,o,o,o,o,o,o,o,o,o,o,o,o,o,o,o,o,o,o,o,o,o,o,o,o,o,o,o,o,o,o,z,z] rfl rfl (take_ofW HT_.out HW_.out (by kernel_rfl)) (fun _ _ _ h => h) (Or.inl ⟨by rfl, ?_⟩) hHeld ?_ ?_
                                rotate_left
                                · rintro w' ⟨s0, s1, s2, s3, s4, s5, s6, s7, s8, s9, s10, s11, s12, s13, s14, s15, s16, s17, s18, s19, s20, s21, s22, s23, s24, s25, s26, s27, s28, s29, s30, s31, s32, s33, s34, s35, s36⟩
                                  go_simp
                                  with_reducible rfl
                                rotate_left
                                · simp only [Act.put, qa, qb, qc, i64_w, i32_w]
                                  rfl
                                refine one_ (i := 42) (N := some 127) #[o,o,o,o,o,o,o,o,o,o,o,o,o,o,o,o,o,o,o,o,o,o,o,o,o,o,o,o,o,o,o,o,o,o,o,o,o,o,o,o,o,o,o,z] rfl rfl (one_of HT_.out (by kernel_rfl)) (by decide) (fun K hK => ?_)
                                refine goes_ Try.func38 (by kernel_rfl) rfl #[.agg #[.int .i64 ((rd_T48 t421 x12_3).f0), .int .i64 ((rd_T48 t421 x12_3).f1.f0), .int .i64 ((rd_T48 t421 x12_3).f1.f1), .int .i64 ((rd_T48 t421 x12_3).f2), .int .i64 ((rd_T48 t421 x12_3).f3), .int .i64 ((rd_T48 t421 x12_3).f4), .bool ((rd_T48 t421 x12_3).f5)], .int .i64 t403, .agg #[.int .i64 t404, .int .i64 (Int.tmod (wrap64 (t405 + 1)) 10)], .int .i64 ((rd_T48 t421 x12_3).f2), .int .i64 t406, .bool true] (by rfl) rfl rfl (by (try simp only [List.map_toArray, List.map_cons, List.map_nil]); first | done | rfl | (simp only [List.length_drop, List.length_take]; rfl)) ?_
                                with_reducible refine (impl_Covers.calls ((rd_T48 t421 x12_3).f0) ((rd_T48 t421 x12_3).f1.f0) ((rd_T48 t421 x12_3).f1.f1) ((rd_T48 t421 x12_3).f2) ((rd_T48 t421 x12_3).f3) ((rd_T48 t421 x12_3).f4) ((rd_T48 t421 x12_3).f5) t403 t404 (Int.tmod (wrap64 (t405 + 1)) 10) ((rd_T48 t421 x12_3).f2) t406 true false _ A52.out).mono ?_
                                rintro e w58 ⟨rfl, hb⟩
                                have HS2_ := (hb.cell (World.block_lt_of_cell? _ _ (hHeld.2.2.1))).trans (hHeld.2.2.1)
                                have HS3_ := (hb.cell (World.block_lt_of_cell? _ _ (hHeld.2.2.2.1))).trans (hHeld.2.2.2.1)
                                have HS4_ := (hb.cell (World.block_lt_of_cell? _ _ (hHeld.2.2.2.2.1))).trans (hHeld.2.2.2.2.1)
                                have HS5_ := (hb.cell (World.block_lt_of_cell? _ _ (hHeld.2.2.2.2.2.1))).trans (hHeld.2.2.2.2.2.1)
                                have HS6_ := (hb.cell (World.block_lt_of_cell? _ _ (hHeld.2.2.2.2.2.2.1))).trans (hHeld.2.2.2.2.2.2.1)
                                have HS7_ := (hb.cell (World.block_lt_of_cell? _ _ (hHeld.2.2.2.2.2.2.2.1))).trans (hHeld.2.2.2.2.2.2.2.1)
                                have HS8_ := (hb.cell (World.block_lt_of_cell? _ _ (hHeld.2.2.2.2.2.2.2.2.1))).trans (hHeld.2.2.2.2.2.2.2.2.1)
                                have HS9_ := (hb.cell (World.block_lt_of_cell? _ _ (hHeld.2.2.2.2.2.2.2.2.2.1))).trans (hHeld.2.2.2.2.2.2.2.2.2.1)
                                have HS10_ := (hb.cell (World.block_lt_of_cell? _ _ (hHeld.2.2.2.2.2.2.2.2.2.2.1))).trans (hHeld.2.2.2.2.2.2.2.2.2.2.1)
                                have HS11_ := (hb.cell (World.block_lt_of_cell? _ _ (hHeld.2.2.2.2.2.2.2.2.2.2.2.1))).trans (hHeld.2.2.2.2.2.2.2.2.2.2.2.1)
                                have HS12_ := (hb.cell (World.block_lt_of_cell? _ _ (hHeld.2.2.2.2.2.2.2.2.2.2.2.2.1))).trans (hHeld.2.2.2.2.2.2.2.2.2.2.2.2.1)
                                have HS13_ := (hb.cell (World.block_lt_of_cell? _ _ (hHeld.2.2.2.2.2.2.2.2.2.2.2.2.2.1))).trans (hHeld.2.2.2.2.2.2.2.2.2.2.2.2.2.1)
                                have HS14_ := (hb.cell (World.block_lt_of_cell? _ _ (hHeld.2.2.2.2.2.2.2.2.2.2.2.2.2.2.1))).trans (hHeld.2.2.2.2.2.2.2.2.2.2.2.2.2.2.1)
                                have HS15_ := (hb.cell (World.block_lt_of_cell? _ _ (hHeld.2.2.2.2.2.2.2.2.2.2.2.2.2.2.2.1))).trans (hHeld.2.2.2.2.2.2.2.2.2.2.2.2.2.2.2.1)
                                have HS16_ := (hb.cell (World.block_lt_of_cell? _ _ (hHeld.2.2.2.2.2.2.2.2.2.2.2.2.2.2.2.2.1))).trans (hHeld.2.2.2.2.2.2.2.2.2.2.2.2.2.2.2.2.1)
                                have HS17_ := (hb.cell (World.block_lt_of_cell? _ _ (hHeld.2.2.2.2.2.2.2.2.2.2.2.2.2.2.2.2.2.1))).trans (hHeld.2.2.2.2.2.2.2.2.2.2.2.2.2.2.2.2.2.1)
                                have HS18_ := (hb.cell (World.block_lt_of_cell? _ _ (hHeld.2.2.2.2.2.2.2.2.2.2.2.2.2.2.2.2.2.2.1))).trans (hHeld.2.2.2.2.2.2.2.2.2.2.2.2.2.2.2.2.2.2.1)
                                have HS19_ := (hb.cell (World.block_lt_of_cell? _ _ (hHeld.2.2.2.2.2.2.2.2.2.2.2.2.2.2.2.2.2.2.2.1))).trans (hHeld.2.2.2.2.2.2.2.2.2.2.2.2.2.2.2.2.2.2.2.1)
                                have HS20_ := (hb.cell (World.block_lt_of_cell? _ _ (hHeld.2.2.2.2.2.2.2.2.2.2.2.2.2.2.2.2.2.2.2.2.1))).trans (hHeld.2.2.2.2.2.2.2.2.2.2.2.2.2.2.2.2.2.2.2.2.1)
                                have HS21_ := (hb.cell (World.block_lt_of_cell? _ _ (hHeld.2.2.2.2.2.2.2.2.2.2.2.2.2.2.2.2.2.2.2.2.2.1))).trans (hHeld.2.2.2.2.2.2.2.2.2.2.2.2.2.2.2.2.2.2.2.2.2.1)
                                have HS22_ := (hb.cell (World.block_lt_of_cell? _ _ (hHeld.2.2.2.2.2.2.2.2.2.2.2.2.2.2.2.2.2.2.2.2.2.2.1))).trans (hHeld.2.2.2.2.2.2.2.2.2.2.2.2.2.2.2.2.2.2.2.2.2.2.1)
                                have HS23_ := (hb.cell (World.block_lt_of_cell? _ _ (hHeld.2.2.2.2.2.2.2.2.2.2.2.2.2.2.2.2.2.2.2.2.2.2.2.1))).trans (hHeld.2.2.2.2.2.2.2.2.2.2.2.2.2.2.2.2.2.2.2.2.2.2.2.1)
                                have HS24_ := (hb.cell (World.block_lt_of_cell? _ _ (hHeld.2.2.2.2.2.2.2.2.2.2.2.2.2.2.2.2.2.2.2.2.2.2.2.2.1))).trans (hHeld.2.2.2.2.2.2.2.2.2.2.2.2.2.2.2.2.2.2.2.2.2.2.2.2.1)
                                have HS25_ := (hb.cell (World.block_lt_of_cell? _ _ (hHeld.2.2.2.2.2.2.2.2.2.2.2.2.2.2.2.2.2.2.2.2.2.2.2.2.2.1))).trans (hHeld.2.2.2.2.2.2.2.2.2.2.2.2.2.2.2.2.2.2.2.2.2.2.2.2.2.1)
                                have HS26_ := (hb.cell (World.block_lt_of_cell? _ _ (hHeld.2.2.2.2.2.2.2.2.2.2.2.2.2.2.2.2.2.2.2.2.2.2.2.2.2.2.1))).trans (hHeld.2.2.2.2.2.2.2.2.2.2.2.2.2.2.2.2.2.2.2.2.2.2.2.2.2.2.1)
                                have HS27_ := (hb.cell (World.block_lt_of_cell? _ _ (hHeld.2.2.2.2.2.2.2.2.2.2.2.2.2.2.2.2.2.2.2.2.2.2.2.2.2.2.2.1))).trans (hHeld.2.2.2.2.2.2.2.2.2.2.2.2.2.2.2.2.2.2.2.2.2.2.2.2.2.2.2.1)
                                have HS28_ := (hb.cell (World.block_lt_of_cell? _ _ (hHeld.2.2.2.2.2.2.2.2.2.2.2.2.2.2.2.2.2.2.2.2.2.2.2.2.2.2.2.2.1))).trans (hHeld.2.2.2.2.2.2.2.2.2.2.2.2.2.2.2.2.2.2.2.2.2.2.2.2.2.2.2.2.1)
                                have HS29_ := (hb.cell (World.block_lt_of_cell? _ _ (hHeld.2.2.2.2.2.2.2.2.2.2.2.2.2.2.2.2.2.2.2.2.2.2.2.2.2.2.2.2.2.1))).trans (hHeld.2.2.2.2.2.2.2.2.2.2.2.2.2.2.2.2.2.2.2.2.2.2.2.2.2.2.2.2.2.1)
                                have HS30_ := (hb.cell (World.block_lt_of_cell? _ _ (hHeld.2.2.2.2.2.2.2.2.2.2.2.2.2.2.2.2.2.2.2.2.2.2.2.2.2.2.2.2.2.2.1))).trans (hHeld.2.2.2.2.2.2.2.2.2.2.2.2.2.2.2.2.2.2.2.2.2.2.2.2.2.2.2.2.2.2.1)
                                have HS31_ := (hb.cell (World.block_lt_of_cell? _ _ (hHeld.2.2.2.2.2.2.2.2.2.2.2.2.2.2.2.2.2.2.2.2.2.2.2.2.2.2.2.2.2.2.2.1))).trans (hHeld.2.2.2.2.2.2.2.2.2.2.2.2.2.2.2.2.2.2.2.2.2.2.2.2.2.2.2.2.2.2.2.1)
                                have HS32_ := (hb.cell (World.block_lt_of_cell? _ _ (hHeld.2.2.2.2.2.2.2.2.2.2.2.2.2.2.2.2.2.2.2.2.2.2.2.2.2.2.2.2.2.2.2.2.1))).trans (hHeld.2.2.2.2.2.2.2.2.2.2.2.2.2.2.2.2.2.2.2.2.2.2.2.2.2.2.2.2.2.2.2.2.1)
                                have HS33_ := (hb.cell (World.block_lt_of_cell? _ _ (hHeld.2.2.2.2.2.2.2.2.2.2.2.2.2.2.2.2.2.2.2.2.2.2.2.2.2.2.2.2.2.2.2.2.2.1))).trans (hHeld.2.2.2.2.2.2.2.2.2.2.2.2.2.2.2.2.2.2.2.2.2.2.2.2.2.2.2.2.2.2.2.2.2.1)
                                have HS34_ := (hb.cell (World.block_lt_of_cell? _ _ (hHeld.2.2.2.2.2.2.2.2.2.2.2.2.2.2.2.2.2.2.2.2.2.2.2.2.2.2.2.2.2.2.2.2.2.2.1))).trans (hHeld.2.2.2.2.2.2.2.2.2.2.2.2.2.2.2.2.2.2.2.2.2.2.2.2.2.2.2.2.2.2.2.2.2.2.1)
                                have HS35_ := (hb.cell (World.block_lt_of_cell? _ _ (hHeld.2.2.2.2.2.2.2.2.2.2.2.2.2.2.2.2.2.2.2.2.2.2.2.2.2.2.2.2.2.2.2.2.2.2.2.1))).trans (hHeld.2.2.2.2.2.2.2.2.2.2.2.2.2.2.2.2.2.2.2.2.2.2.2.2.2.2.2.2.2.2.2.2.2.2.2.1)
                                have HS36_ := (hb.cell (World.block_lt_of_cell? _ _ (hHeld.2.2.2.2.2.2.2.2.2.2.2.2.2.2.2.2.2.2.2.2.2.2.2.2.2.2.2.2.2.2.2.2.2.2.2.2))).trans (hHeld.2.2.2.2.2.2.2.2.2.2.2.2.2.2.2.2.2.2.2.2.2.2.2.2.2.2.2.2.2.2.2.2.2.2.2.2)
                                refine ⟨_, rfl, ?_⟩
                                replace HO_7 := am (Kd.R_below (rB HO_7.out) hb)
                                replace HO_11 := am (Kd.R_below (rB HO_11.out) hb)
                                replace BK407 := am (blk_below (bB BK407.out) hb)
                                replace HB := am (below_step (sB HB.out) hb)
                                (try clear hb)
                                (try clear hb2)
                                (try clear hk)
                                (try clear hi)
                                refine hK.out _ _ ⟨(blk_cell BK407.out 0).trans rfl, (blk_cell BK407.out 1).trans rfl, HS2_, HS3_, HS4_, HS5_, HS6_, HS7_, HS8_, HS9_, HS10_, HS11_, HS12_, HS13_, HS14_, HS15_, HS16_, HS17_, HS18_, HS19_, HS20_, HS21_, HS22_, HS23_, HS24_, HS25_, HS26_, HS27_, HS28_, HS29_, HS30_, HS31_, HS32_, HS33_, HS34_, HS35_, HS36_⟩ (fun hHeld => ?_)
                                clear hK K
                                refine norm_ (a' := ?_) ?_ ?_
                                rotate_left
                                · show Act.put _ (some 127) _ = _
                                  simp only [Act.put, qa, qb, qc, i64_w, i32_w]
                                  rfl
                                refine pure_ (i := 43) (N := some 128) (v := ?_) (a' := ?_) #[o,o,o,o,o,o,o,o,o,o,o,o,o,o,o,o,o,o,o,o,o,o,o,o,o,o,o,o,o,o,o,o,o,o,o,o,o,o,o,o,o,o,o,o] rfl rfl (any_of HT_.out (by kernel_rfl)) (fun _ _ _ h => h) (Or.inl ⟨by rfl, ?_⟩) ?_ ?_
                                rotate_left
                                · intro w'
                                  go_simp
                                  with_reducible rfl
                                rotate_left
                                · simp only [Act.put, qa, qb, qc, i64_w, i32_w]
                                  rfl
                                refine done_ (done_of HT_.out (by kernel_rfl)) ?_
                                try go_wp2
                                go_roundg k3
                                case measure => have := HJ6.out; have := HK2.out; have := HK3.out; omega
                                case rel => exact ⟨(wrap64 (x12_3 + 1)), (by first | rfl | (simp; done) | (simp [*]; done)), H', ⟨by have := HJ6.out; have := HK2.out; have := HK3.out; omega⟩, ⟨by (with_reducible repeat (first | apply Kd.R_alloc | apply Kd.R_drewN | apply Kd.R_drew)); exact HO_7.out⟩, ⟨by (with_reducible repeat (first | apply Kd.R_alloc | apply Kd.R_drewN | apply Kd.R_drew)); exact HO_11.out⟩, ⟨bB BK407.out⟩, ⟨sB HB.out⟩⟩
                          · replace c49 := Bool.eq_false_iff.mpr c49
                            subst c49
                            have H1 : (some false) = some r := by rw [if_neg (show ¬ (false = true) by decide)] at H; exact H
                            clear H
                            have H := H1
                            clear H1
                            exact absurd ((Option.some.inj H).trans HRT.out) (by decide)
                        · rw [if_neg c47] at H
                          exact absurd H (by simp)
                      · rw [if_neg c46] at H
                        have c46b0 : decide (x12_3 < (t421.length : Int)) = false := decide_eq_false c46
                        clear c46
                        by_cases c59 : (t421.length : Int) = 2
                        · rw [if_pos c59] at H
                          have c59b0 : ((t421.length : Int) == 2) = true := beq_iff_eq.mpr c59
                          have c59b1 : ((t421.length : Int) != 2) = false := bne_eq_false_iff_eq.mpr c59
                          clear c59
                          obtain rfl := Option.some.inj H
                          obtain ⟨Ao60, co60, eo60⟩ := Kd.R_slice HO_11.out
                          subst eo60
                          go_wp2
                          go_ret
                          exact ⟨by first | rfl | (simp [errW_none, errW_some] <;> rfl) | (simp [*, errW_none, errW_some] <;> rfl), sB HB.out⟩
                        · rw [if_neg c59] at H
                          have c59b0 : ((t421.length : Int) == 2) = false := beq_eq_false_iff_ne.mpr c59
                          have c59b1 : ((t421.length : Int) != 2) = true := bne_iff_ne.mpr c59
                          exact absurd ((Option.some.inj H).trans HRT.out) (by decide)
    · replace c6 := Bool.eq_false_iff.mpr c6
      subst c6
      have H1 : (some ((t408.length : Int) == (t400.length : Int))) = some r := by rw [if_neg (show ¬ (false = true) by decide)] at H; exact H
      clear H
      have H := H1
      clear H1
      obtain rfl := Option.some.inj H
      go_enter Try.func8, Try.ntmps8
      go_wp2_with (first | ((with_reducible refine gate_callee (f := 36) rfl ?_); refine goesL_ (some 14) rfl rfl Try.func36 (by kernel_rfl) rfl #[.slice A0 l0.length c0] rfl (by (try simp only [List.map_toArray, List.map_cons, List.map_nil]); first | done | rfl | (simp only [List.length_drop, List.length_take]; rfl)) ?_; (with_reducible refine (laws_big.calls _ _ l0 false _ ?side1 ?side2 A2.out).mono ?_); (case side1 => exact cB (HR0.out)); (case side2 => exact HC0.out); rintro e w' ⟨rfl, ⟨nd, rfl⟩⟩; refine ⟨_, rfl, ?_⟩) | ((with_reducible refine gate_callee (f := 45) rfl ?_); refine goesL_ (some 17) rfl rfl Try.func45 (by kernel_rfl) rfl #[.slice A0 l0.length c0] rfl (by (try simp only [List.map_toArray, List.map_cons, List.map_nil]); first | done | rfl | (simp only [List.length_drop, List.length_take]; rfl)) ?_; (with_reducible refine (spec_DrawLendTo.calls k _ _ l0 t400 t403 t404 t405 t406 _ ?side1 ?side2 A4.out).mono ?_); (case side1 => exact cB (HR0.out)); (case side2 => exact HC0.out); rintro e w61 ⟨v401, rfl, ho0, hb⟩; refine ⟨_, rfl, ?_⟩; have n0_ := am (Kd.R_lower ho0 (below_size (sB HB.out))); have n1_ := am (below_step (sB HB.out) hb); clear HB; have HO402 := n0_; have HB := n1_; clear n0_ n1_; (try clear hb); (try clear hb2); (try clear hk); (try clear hi); (try clear ho0)) | ((with_reducible refine gate_dst (N := 5) rfl ?_); (try (refine gate_guard (by rfl) ?_; dsimp only)); refine box_event ?hg (N := 5) ?hd (cs := #[.int .i64 0, .int .i64 0]) (t := 33) ?hr ?_; (case hd => rfl); (case hg => rfl); (case hr => first | (go_simp; done) | (go_simp; rfl)); intro gb407 hg w62 hbox hb; have n0_ := am (Kd.R_below (rB HO402.out) hb); have q_ := hbx_ (sB HB.out) hg hb; have n1_ := q_.1; have n2_ := am (hbox); have n3_ := q_.2; have n4_ := n3_; clear HO402; clear HB; have HO402 := n0_; have HB := n1_; have BK407 := n2_; have GW407 := n3_; have GE407 := n4_; clear n0_ n1_ n2_ n3_ n4_; clear hb hbox hg; obtain ⟨hcz63_0, hcz63_1, hfz63_0, hfz63_1⟩ := blk2 BK407.out; obtain ⟨Ao64, co64, eo64⟩ := Kd.R_slice HO402.out; subst eo64) | ((with_reducible refine gate_callee (f := 31) rfl ?_); refine goesL_ (some 27) rfl rfl Try.func31 (by kernel_rfl) rfl #[.slice Ao64 t400.length co64, .int .i64 t403, .agg #[.int .i64 t404, .int .i64 t405], .int .i64 t406] rfl (by (try simp only [List.map_toArray, List.map_cons, List.map_nil]); first | done | rfl | (simp only [List.length_drop, List.length_take]; rfl)) ?_; (with_reducible refine (impl_LendTo.calls k _ _ t400 t403 t404 t405 t406 t408 false _ ?side1 ?side2 A5.out).mono ?_); (case side1 => refine (Kd.R_reads' (e := 48) (base := w.heap.size) (ok := fun k_ => True) (n := t400.length) (c := co64) ?_).2.2; exact (by (with_reducible repeat (first | apply Kd.R_alloc | apply Kd.R_drewN | apply Kd.R_drew)); exact (Kd.R_mono (Kd.R_far (p := ⟨gb407, 1, none⟩) (Kd.R_far (p := ⟨gb407, 0, none⟩) (Kd.R_types HO402.out BK407.out (by decide)) (fun _ hk => hk.2) (.int .i64 t404)) (fun _ hk => hk.2) (.int .i64 t405)) (fun _ h_ => h_.1)))); (case side2 => exact (Kd.R_reads' HO402.out).2.1); rintro e w65 ⟨v409, rfl, ho0, hb⟩; refine ⟨_, rfl, ?_⟩; have n0_ := am (Kd.R_elder' (by (with_reducible repeat (first | apply Kd.R_alloc | apply Kd.R_drewN | apply Kd.R_drew)); exact (Kd.R_mono (Kd.R_far (p := ⟨gb407, 1, none⟩) (Kd.R_far (p := ⟨gb407, 0, none⟩) (Kd.R_types HO402.out BK407.out (by decide)) (fun _ hk => hk.2) (.int .i64 t404)) (fun _ hk => hk.2) (.int .i64 t405)) (fun _ h_ => h_.1))) (Kd.R_base ho0) hb); have n1_ := am (Kd.R_lower (Kd.R_new' ho0 (Kd.R_lt (by (with_reducible repeat (first | apply Kd.R_alloc | apply Kd.R_drewN | apply Kd.R_drew)); exact (Kd.R_mono (Kd.R_far (p := ⟨gb407, 1, none⟩) (Kd.R_far (p := ⟨gb407, 0, none⟩) (Kd.R_types HO402.out BK407.out (by decide)) (fun _ hk => hk.2) (.int .i64 t404)) (fun _ hk => hk.2) (.int .i64 t405)) (fun _ h_ => h_.1))))) (below_size (sB HB.out))); have n2_ := am (blk_below (g := gb407) (o := .cells #[.int .i64 t404, .int .i64 t405] 33 (0, 0)) (by refine bB ?_; refine blk_put (cs := #[.int .i64 t404, .int .i64 0]) ?_ 1 _ rfl; refine bB ?_; refine blk_put (cs := #[.int .i64 0, .int .i64 0]) ?_ 0 _ rfl; refine bB ?_; exact BK407.out) hb); have n3_ := am (below_step (sB HB.out) hb); clear HO402; clear BK407; clear HB; have HO402 := n0_; have HO410 := n1_; have BK407 := n2_; have HB := n3_; clear n0_ n1_ n2_ n3_; (try clear hb); (try clear hb2); (try clear hk); (try clear hi); (try clear ho0); obtain ⟨Ao66, co66, eo66⟩ := Kd.R_slice HO410.out; subst eo66))
      go_ret
      exact ⟨by first | rfl | (simp [errW_none, errW_some] <;> rfl) | (simp [*, errW_none, errW_some] <;> rfl), sB HB.out⟩

/-- THE ONE PURE STATEMENT of laws_FnLent: yours. -/
def laws_FnLent.Pure : Prop := ∀ (l0 : List Int), l0.length ≤ maxLen → l0.length * 1 ≤ 140737488351232 → (∀ x ∈ l0, (Lit.int .u8 x).wf = true) → ∃ k, laws_FnLent.f k l0 = some true
theorem laws_FnLent.walk (P : laws_FnLent.Pure) (a0 : Option Addr) (len0 cap0 : Nat) (z0 : List Int) (w : World) (w0 : (a0 = none ∧ len0 = 0 ∧ cap0 = 0 ∧ z0 = []) ∨ ∃ x, a0 = some x ∧ len0 ≤ cap0 ∧ cap0 ≤ maxLen ∧ z0.length = cap0 ∧ (∀ i, i < z0.length → w.cell? (x.add i) = some (.int .u8 (z0.getD i 0))) ∧ ∀ n ∈ z0, (Lit.int .u8 n).wf = true) (y0 : len0 * 1 ≤ 140737488351232) :
    Calls Try.prog 8 #[.slice a0 len0 cap0] w fun e w' => e = .returned (.bool true) ∧ Below w.heap.size w w' := by
  obtain ⟨l0, rfl, hr0, hm0, hw0, hc0⟩ := ReadsInt.ofRowC w0
  obtain ⟨k, h⟩ := P l0 hm0 y0 hw0
  refine (laws_FnLent.calls k _ _ l0 true w (Kd.C_of_reads (d := (0 : Int)) (h1 := fun _ => rfl) hr0) hc0 h rfl).mono ?_
  rintro e w' ⟨rfl, hd⟩
  exact ⟨rfl, hd⟩

end Go.Proofs.Ytacgichgadoddaa.QM
