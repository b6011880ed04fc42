/- Go functions as Lean functions, each with its walk; printed by a program of this session (a scratch copy of print.py that follows nested field addresses and tells a law for the answer true). -/
import Derived.Test.YtacgichgadoddaaQKx0
import Derived.Test.YtacgichgadoddaaQKx16
import Derived.Test.YtacgichgadoddaaQKx19
import Derived.Test.YtacgichgadoddaaQKx20
import Derived.Test.YtacgichgadoddaaQKx21
import Derived.Test.YtacgichgadoddaaQKx32
import Derived.Test.YtacgichgadoddaaQKxM0
namespace Go.Proofs.Ytacgichgadoddaa.QK
open Go.RowKit Go.Proofs.YtacgichgadoddaaW.PrintWords Go.Proofs.YtacgichgadoddaaW.PrintLast Go.Proofs.YtacgichgadoddaaW.PrintMore Go.Proofs.Ytacgichgadoddaa.Short
attribute [local go_sem] max2_int min2_int max_two min_two max_three min_three max_four min_four   -- for this text's walks alone
set_option linter.unusedVariables false
set_option linter.unusedSimpArgs false
theorem field105_40 (a b c : Int) (v : Value) (w : World) : (Instr.field 105 (.agg #[.int .i64 a, .int .i64 b, .int .i64 c, v]) 0).run Try.prog w = .ok (.int .i64 a) w := by kernel_rfl
attribute [local go_sem] field105_40

attribute [local go_sem high] eqA33
/-! ### laws_FnFollowed: function 14 -/
mutual
def laws_FnFollowed.j0 : Nat → List (S35) → Bool → Int → Int → Int → Int → Int → Int → List (S33) → Option (Bool)
 | 0, _, _, _, _, _, _, _, _, _ => none
 | k + 1, x3, x62, x341000, x341001, x341002, x348000, x348001, x348002, x348003 => if x62 = true then (some false) else (laws_FnFollowed.l0 k x3 0 x341000 x341001 x341002 x348000 x348001 x348002 x348003)
def laws_FnFollowed.l0 : Nat → List (S35) → Int → Int → Int → Int → Int → Int → Int → List (S33) → Option (Bool)
 | 0, _, _, _, _, _, _, _, _, _ => none
 | k + 1, x3, x6, x341000, x341001, x341002, x348000, x348001, x348002, x348003 => if x6 < (x348003.length : Int) then (laws_FnFollowed.l1 k x3 x6 0 x341000 x341001 x341002 x348000 x348001 x348002 x348003) else ((impl_IsSettled.f k x3 x341000 x341001 x341002).bind fun t357 => (if x348000 = 1 then (if (t357 == true) = true then ((impl_LoopsFrom.f k x3 x341000).bind fun t358 => ((laws_contains.f k t358 (wrap64 (x341001 + (wrap64 (10 * (wrap64 (x341002 - 1))))))).bind fun t361 => (if (t361 == (x348000 == 3)) = true then ((impl_FollowRequest.f k x3 x341000 x341001 x341002).bind fun bt362 => ((impl_EqualOutcomes.f k x348000 x348001 x348002 x348003 bt362.1 bt362.2.1 bt362.2.2.1 bt362.2.2.2).bind fun t368 => (some t368))) else (some false)))) else (some false)) else (if (t357 == (x348000 == 2)) = true then ((impl_LoopsFrom.f k x3 x341000).bind fun t369 => ((laws_contains.f k t369 (wrap64 (x341001 + (wrap64 (10 * (wrap64 (x341002 - 1))))))).bind fun t372 => (if (t372 == (x348000 == 3)) = true then ((impl_FollowRequest.f k x3 x341000 x341001 x341002).bind fun bt373 => ((impl_EqualOutcomes.f k x348000 x348001 x348002 x348003 bt373.1 bt373.2.1 bt373.2.2.1 bt373.2.2.2).bind fun t379 => (some t379))) else (some false)))) else (some false))))
def laws_FnFollowed.l1 : Nat → List (S35) → Int → Int → Int → Int → Int → Int → Int → Int → List (S33) → Option (Bool)
 | 0, _, _, _, _, _, _, _, _, _, _ => none
 | k + 1, x3, x6, x7, x341000, x341001, x341002, x348000, x348001, x348002, x348003 => if x7 < x6 then (if 0 ≤ x6 then (if x6 < (x348003.length : Int) then (if 0 ≤ x7 then (if x7 < (x348003.length : Int) then (if (((rd_T33 x348003 x6).f0) == ((rd_T33 x348003 x7).f0) && (((rd_T33 x348003 x6).f1) == ((rd_T33 x348003 x7).f1))) = true then (some false) else (laws_FnFollowed.l1 k x3 x6 (wrap64 (x7 + 1)) x341000 x341001 x341002 x348000 x348001 x348002 x348003)) else (none)) else (none)) else (none)) else (none)) else (if 0 ≤ x6 then (if x6 < (x348003.length : Int) then ((impl_ActionFor.f k x3 ((rd_T33 x348003 x6).f0) ((rd_T33 x348003 x6).f1) x341002).bind fun t356 => (if (x6 = (wrap64 ((x348003.length : Int) - 1))) then (if x6 = (wrap64 ((x348003.length : Int) - 1)) then (if ((x348000 == 1) != (t356 == 1)) = true then (some false) else (if ((x348000 == 2) != (t356 == 2)) = true then (some false) else (laws_FnFollowed.l0 k x3 (wrap64 (x6 + 1)) x341000 x341001 x341002 x348000 x348001 x348002 x348003))) else (laws_FnFollowed.l0 k x3 (wrap64 (x6 + 1)) x341000 x341001 x341002 x348000 x348001 x348002 x348003)) else (if t356 = 3 then (if x6 = (wrap64 ((x348003.length : Int) - 1)) then (if ((x348000 == 1) != (t356 == 1)) = true then (some false) else (if ((x348000 == 2) != (t356 == 2)) = true then (some false) else (laws_FnFollowed.l0 k x3 (wrap64 (x6 + 1)) x341000 x341001 x341002 x348000 x348001 x348002 x348003))) else (laws_FnFollowed.l0 k x3 (wrap64 (x6 + 1)) x341000 x341001 x341002 x348000 x348001 x348002 x348003)) else (some false)))) else (none)) else (none))
end
def laws_FnFollowed.f (k : Nat) (l0 : List Int) : Option (Bool) := (laws_big.f l0).bind fun t333 => (if t333 = true then (some true) else ((spec_DrawFollowRequest.f k l0).bind fun bt334 => ((impl_FollowRequest.f k bt334.1 bt334.2.1 bt334.2.2.1 bt334.2.2.2).bind fun bt341 => ((impl_IsRequest.f bt334.2.1 bt334.2.2.1 bt334.2.2.2).bind fun t348 => ((spec_IsRequest.f bt334.2.1 bt334.2.2.1 bt334.2.2.2).bind fun t349 => (if (t348 != t349) = true then (some false) else ((impl_IsRequest.f bt334.2.1 bt334.2.2.1 bt334.2.2.2).bind fun t350 => (if t350 = true then ((impl_OutcomeName.f bt341.1).bind fun t351 => (if t351.toList = ([] : List UInt8) then (laws_FnFollowed.j0 k bt334.1 true bt334.2.1 bt334.2.2.1 bt334.2.2.2 bt341.1 bt341.2.1 bt341.2.2.1 bt341.2.2.2) else (if (bt341.2.2.2.length : Int) < 1 then (laws_FnFollowed.j0 k bt334.1 true bt334.2.1 bt334.2.2.1 bt334.2.2.2 bt341.1 bt341.2.1 bt341.2.2.1 bt341.2.2.2) else (if (bt341.2.2.2.length : Int) > 6 then (laws_FnFollowed.j0 k bt334.1 true bt334.2.1 bt334.2.2.1 bt334.2.2.2 bt341.1 bt341.2.1 bt341.2.2.1 bt341.2.2.2) else (if 0 < (bt341.2.2.2.length : Int) then (laws_FnFollowed.j0 k bt334.1 (!(((rd_T33 bt341.2.2.2 0).f0) == bt334.2.1) || (!(((rd_T33 bt341.2.2.2 0).f1) == bt334.2.2.1))) bt334.2.1 bt334.2.2.1 bt334.2.2.2 bt341.1 bt341.2.1 bt341.2.2.1 bt341.2.2.2) else (none)))))) else (if bt341.1 = 0 then (some ((bt341.2.2.2.length : Int) == 0)) else (some false))))))))))
theorem laws_FnFollowed.mono_l : ∀ k, (∀ y0 y1 y2 y3 y4 y5 y6 y7 y8, LeO (laws_FnFollowed.j0 k y0 y1 y2 y3 y4 y5 y6 y7 y8) (laws_FnFollowed.j0 (k + 1) y0 y1 y2 y3 y4 y5 y6 y7 y8)) ∧ (∀ y0 y1 y2 y3 y4 y5 y6 y7 y8, LeO (laws_FnFollowed.l0 k y0 y1 y2 y3 y4 y5 y6 y7 y8) (laws_FnFollowed.l0 (k + 1) y0 y1 y2 y3 y4 y5 y6 y7 y8)) ∧ (∀ y0 y1 y2 y3 y4 y5 y6 y7 y8 y9, LeO (laws_FnFollowed.l1 k y0 y1 y2 y3 y4 y5 y6 y7 y8 y9) (laws_FnFollowed.l1 (k + 1) y0 y1 y2 y3 y4 y5 y6 y7 y8 y9))
 | 0 => ⟨fun _ _ _ _ _ _ _ _ _ r h => by simp [laws_FnFollowed.j0] at h, fun _ _ _ _ _ _ _ _ _ r h => by simp [laws_FnFollowed.l0] at h, fun _ _ _ _ _ _ _ _ _ _ r h => by simp [laws_FnFollowed.l1] at h⟩
 | k + 1 => by
  obtain ⟨ih0, ih1, ih2⟩ := laws_FnFollowed.mono_l k
  refine ⟨?_, ?_, ?_⟩
  ·intro y0 y1 y2 y3 y4 y5 y6 y7 y8
   unfold laws_FnFollowed.j0
   repeat' first
   | (with_reducible exact ih0 _ _ _ _ _ _ _ _ _)
   | (with_reducible exact ih1 _ _ _ _ _ _ _ _ _)
   | (with_reducible exact ih2 _ _ _ _ _ _ _ _ _ _)
   | (with_reducible exact impl_ActionFor.mono _ _ _ _ _)
   | (with_reducible exact impl_EqualOutcomes.mono _ _ _ _ _ _ _ _ _)
   | (with_reducible exact impl_FollowRequest.mono _ _ _ _ _)
   | (with_reducible exact impl_IsSettled.mono _ _ _ _ _)
   | (with_reducible exact impl_LoopsFrom.mono _ _ _)
   | (with_reducible exact laws_contains.mono _ _ _)
   | (with_reducible exact spec_DrawFollowRequest.mono _ _)
   | (with_reducible exact LeO.refl _)
   | (with_reducible exact LeO.none _)
   | (with_reducible refine LeO.ite ?_ ?_)
   | (with_reducible refine LeO.bind ?_ (fun _ => ?_))
   | exact ih0 _ _ _ _ _ _ _ _ _
   | exact ih1 _ _ _ _ _ _ _ _ _
   | exact ih2 _ _ _ _ _ _ _ _ _ _
   | exact impl_ActionFor.mono _ _ _ _ _
   | exact impl_EqualOutcomes.mono _ _ _ _ _ _ _ _ _
   | exact impl_FollowRequest.mono _ _ _ _ _
   | exact impl_IsSettled.mono _ _ _ _ _
   | exact impl_LoopsFrom.mono _ _ _
   | exact laws_contains.mono _ _ _
   | exact spec_DrawFollowRequest.mono _ _
   | exact LeO.none _
   | refine LeO.ite ?_ ?_
   | refine LeO.bind ?_ (fun _ => ?_)
  ·intro y0 y1 y2 y3 y4 y5 y6 y7 y8
   unfold laws_FnFollowed.l0
   repeat' first
   | (with_reducible exact ih0 _ _ _ _ _ _ _ _ _)
   | (with_reducible exact ih1 _ _ _ _ _ _ _ _ _)
   | (with_reducible exact ih2 _ _ _ _ _ _ _ _ _ _)
   | (with_reducible exact impl_ActionFor.mono _ _ _ _ _)
   | (with_reducible exact impl_EqualOutcomes.mono _ _ _ _ _ _ _ _ _)
   | (with_reducible exact impl_FollowRequest.mono _ _ _ _ _)
   | (with_reducible exact impl_IsSettled.mono _ _ _ _ _)
   | (with_reducible exact impl_LoopsFrom.mono _ _ _)
   | (with_reducible exact laws_contains.mono _ _ _)
   | (with_reducible exact spec_DrawFollowRequest.mono _ _)
   | (with_reducible exact LeO.refl _)
   | (with_reducible exact LeO.none _)
   | (with_reducible refine LeO.ite ?_ ?_)
   | (with_reducible refine LeO.bind ?_ (fun _ => ?_))
   | exact ih0 _ _ _ _ _ _ _ _ _
   | exact ih1 _ _ _ _ _ _ _ _ _
   | exact ih2 _ _ _ _ _ _ _ _ _ _
   | exact impl_ActionFor.mono _ _ _ _ _
   | exact impl_EqualOutcomes.mono _ _ _ _ _ _ _ _ _
   | exact impl_FollowRequest.mono _ _ _ _ _
   | exact impl_IsSettled.mono _ _ _ _ _
   | exact impl_LoopsFrom.mono _ _ _
   | exact laws_contains.mono _ _ _
   | exact spec_DrawFollowRequest.mono _ _
   | exact LeO.none _
   | refine LeO.ite ?_ ?_
   | refine LeO.bind ?_ (fun _ => ?_)
  ·intro y0 y1 y2 y3 y4 y5 y6 y7 y8 y9
   unfold laws_FnFollowed.l1
   repeat' first
   | (with_reducible exact ih0 _ _ _ _ _ _ _ _ _)
   | (with_reducible exact ih1 _ _ _ _ _ _ _ _ _)
   | (with_reducible exact ih2 _ _ _ _ _ _ _ _ _ _)
   | (with_reducible exact impl_ActionFor.mono _ _ _ _ _)
   | (with_reducible exact impl_EqualOutcomes.mono _ _ _ _ _ _ _ _ _)
   | (with_reducible exact impl_FollowRequest.mono _ _ _ _ _)
   | (with_reducible exact impl_IsSettled.mono _ _ _ _ _)
   | (with_reducible exact impl_LoopsFrom.mono _ _ _)
   | (with_reducible exact laws_contains.mono _ _ _)
   | (with_reducible exact spec_DrawFollowRequest.mono _ _)
   | (with_reducible exact LeO.refl _)
   | (with_reducible exact LeO.none _)
   | (with_reducible refine LeO.ite ?_ ?_)
   | (with_reducible refine LeO.bind ?_ (fun _ => ?_))
   | exact ih0 _ _ _ _ _ _ _ _ _
   | exact ih1 _ _ _ _ _ _ _ _ _
   | exact ih2 _ _ _ _ _ _ _ _ _ _
   | exact impl_ActionFor.mono _ _ _ _ _
   | exact impl_EqualOutcomes.mono _ _ _ _ _ _ _ _ _
   | exact impl_FollowRequest.mono _ _ _ _ _
   | exact impl_IsSettled.mono _ _ _ _ _
   | exact impl_LoopsFrom.mono _ _ _
   | exact laws_contains.mono _ _ _
   | exact spec_DrawFollowRequest.mono _ _
   | exact LeO.none _
   | refine LeO.ite ?_ ?_
   | refine LeO.bind ?_ (fun _ => ?_)
theorem laws_FnFollowed.mono : ∀ a0 k, LeO (laws_FnFollowed.f k a0) (laws_FnFollowed.f (k + 1) a0) := by
 intro a0 k
 obtain ⟨ih0, ih1, ih2⟩ := laws_FnFollowed.mono_l k
 unfold laws_FnFollowed.f
 repeat' first
   | (with_reducible exact ih0 _ _ _ _ _ _ _ _ _)
   | (with_reducible exact ih1 _ _ _ _ _ _ _ _ _)
   | (with_reducible exact ih2 _ _ _ _ _ _ _ _ _ _)
   | (with_reducible exact impl_ActionFor.mono _ _ _ _ _)
   | (with_reducible exact impl_EqualOutcomes.mono _ _ _ _ _ _ _ _ _)
   | (with_reducible exact impl_FollowRequest.mono _ _ _ _ _)
   | (with_reducible exact impl_IsSettled.mono _ _ _ _ _)
   | (with_reducible exact impl_LoopsFrom.mono _ _ _)
   | (with_reducible exact laws_contains.mono _ _ _)
   | (with_reducible exact spec_DrawFollowRequest.mono _ _)
   | (with_reducible exact LeO.refl _)
   | (with_reducible exact LeO.none _)
   | (with_reducible refine LeO.ite ?_ ?_)
   | (with_reducible refine LeO.bind ?_ (fun _ => ?_))
   | exact ih0 _ _ _ _ _ _ _ _ _
   | exact ih1 _ _ _ _ _ _ _ _ _
   | exact ih2 _ _ _ _ _ _ _ _ _ _
   | exact impl_ActionFor.mono _ _ _ _ _
   | exact impl_EqualOutcomes.mono _ _ _ _ _ _ _ _ _
   | exact impl_FollowRequest.mono _ _ _ _ _
   | exact impl_IsSettled.mono _ _ _ _ _
   | exact impl_LoopsFrom.mono _ _ _
   | exact laws_contains.mono _ _ _
   | exact spec_DrawFollowRequest.mono _ _
   | exact LeO.none _
   | refine LeO.ite ?_ ?_
   | refine LeO.bind ?_ (fun _ => ?_)
def laws_FnFollowed.T9 : Bool × List (List Nat × List Nat) := (true, [([], []), ([0], [0]), ([1], [1]), ([2], [2]), ([3, 2], [3]), ([4], [4]), ([5, 4], [4, 5]), ([6, 4], [4, 6]), ([7, 4], [4, 7]), ([4, 8], [4, 8]), ([9, 4], [9]), ([10], [10]), ([11, 10], [10, 11]), ([12, 10], [10, 12]), ([13, 10], [10, 13]), ([10, 14], [10, 14]), ([15, 10], [15]), ([16], [16]), ([17, 16], [16, 17]), ([18, 16], [16, 18]), ([19, 16], [16, 19]), ([16], [16]), ([21, 16], [16, 21]), ([20, 22, 16], [16, 20, 22]), ([16, 23], [16, 23])])
def laws_FnFollowed.B9 : List Nat := [0, 1, 3, 7, 15, 31, 63, 127, 255, 511, 1023, 2047, 4095, 8191, 16383, 32767, 65535, 131071, 262143, 524287, 1048575, 131071, 2228223, 8388607, 16777215]
theorem laws_FnFollowed.tab9 : rtab .any (opsOf Try.f14 9) = laws_FnFollowed.T9 := by kernel_rfl
theorem laws_FnFollowed.bits9 : waitsOk laws_FnFollowed.T9.2 laws_FnFollowed.B9 = true := by kernel_rfl
def laws_FnFollowed.T17 : Bool × List (List Nat × List Nat) := (true, [([], []), ([0], [0]), ([], []), ([1, 2], [1, 2]), ([3], [3]), ([], []), ([5], [5]), ([], []), ([6, 7], [6, 7]), ([8], [8]), ([4, 9], [4, 9])])
def laws_FnFollowed.B17 : List Nat := [0, 1, 0, 7, 15, 0, 32, 0, 224, 480, 1023]
theorem laws_FnFollowed.tab17 : rtab .any (opsOf Try.f14 17) = laws_FnFollowed.T17 := by kernel_rfl
theorem laws_FnFollowed.bits17 : waitsOk laws_FnFollowed.T17.2 laws_FnFollowed.B17 = true := by kernel_rfl
def laws_FnFollowed.T19 : Bool × List (List Nat × List Nat) := (true, [([], []), ([], []), ([1], [1]), ([], []), ([2, 3], [2, 3]), ([4], [4]), ([], []), ([6], [6]), ([5, 7], [5, 7]), ([0, 8], [0, 8]), ([9, 9, 0, 1, 2, 3, 4, 5, 6, 7, 8, 9], [9])])
def laws_FnFollowed.B19 : List Nat := [0, 0, 2, 0, 14, 30, 0, 64, 254, 511, 1023]
theorem laws_FnFollowed.tab19 : rtab .any (opsOf Try.f14 19) = laws_FnFollowed.T19 := by kernel_rfl
theorem laws_FnFollowed.bits19 : waitsOk laws_FnFollowed.T19.2 laws_FnFollowed.B19 = true := by kernel_rfl
def laws_FnFollowed.T24 : Bool × List (List Nat × List Nat) := (true, [([], []), ([], []), ([0, 1], [0, 1]), ([], []), ([3], [3]), ([4], [4]), ([5, 2], [5]), ([6], [6]), ([7, 6], [6, 7]), ([8, 6], [6, 8]), ([6, 9], [6, 9]), ([2, 10], [2, 10]), ([11, 6], [11]), ([12], [12]), ([12], [12]), ([14, 12], [12, 14]), ([15, 12], [12, 15]), ([13, 16, 12, 12], [12, 13, 16]), ([12], [12]), ([17, 18, 17, 12], [12, 17, 18]), ([12], [12]), ([20, 12], [12, 20]), ([21, 12], [12, 21]), ([19, 22, 12], [12, 19, 22]), ([12, 23], [12, 23]), ([24, 19], [24]), ([25], [25]), ([25], [25]), ([25], [25]), ([27, 28, 25, 25], [25, 27, 28]), ([26, 29, 29, 25], [25, 26, 29]), ([25, 30], [25, 30]), ([31, 30, 0, 1, 2, 3, 4, 5, 6, 7, 8, 9, 10, 11, 12, 13, 14, 15, 16, 17, 18, 19, 20, 21, 22, 23, 24, 25, 26, 27, 28, 29, 30, 31], [31])])
def laws_FnFollowed.B24 : List Nat := [0, 0, 3, 0, 8, 24, 63, 127, 255, 511, 1023, 2047, 4095, 8191, 8191, 24575, 57343, 131071, 8191, 524287, 8191, 1056767, 3153919, 8388607, 16777215, 33554431, 67108863, 67108863, 67108863, 469762047, 1073741823, 2147483647, 4294967295]
theorem laws_FnFollowed.tab24 : rtab .any (opsOf Try.f14 24) = laws_FnFollowed.T24 := by kernel_rfl
theorem laws_FnFollowed.bits24 : waitsOk laws_FnFollowed.T24.2 laws_FnFollowed.B24 = true := by kernel_rfl
set_option maxHeartbeats 8000000 in
set_option maxRecDepth 100000 in
theorem laws_FnFollowed.calls (k : Nat) (A0 : Option Addr) (c0 : Nat) (l0 : List Int) (r : Bool) (w : World) (hr0 : Kd.C (Kd.int .u8) w A0 l0.length l0) (hc0 : l0.length ≤ c0) (h : laws_FnFollowed.f k l0 = some r) (hr_ : r = true) :
  Calls Try.prog 14 #[.slice A0 l0.length c0] w fun e w' => e = .returned (.bool r) ∧ Below w.heap.size w w' := by
 have HRT := Aside0.mk hr_
 clear hr_
 have hu86 := Try.underlying86
 have hu105 := Try.underlying105
 have hu33 := Try.underlying33
 have HR0 := Aside0.mk hr0
 have HC0 := Aside0.mk hc0
 clear hr0 hc0
 have HB := am (Below.refl w.heap.size w)
 have H : ((laws_big.f l0).bind fun t333 => (if t333 = true then (some true) else ((spec_DrawFollowRequest.f k l0).bind fun bt334 => ((impl_FollowRequest.f k bt334.1 bt334.2.1 bt334.2.2.1 bt334.2.2.2).bind fun bt341 => ((impl_IsRequest.f bt334.2.1 bt334.2.2.1 bt334.2.2.2).bind fun t348 => ((spec_IsRequest.f bt334.2.1 bt334.2.2.1 bt334.2.2.2).bind fun t349 => (if (t348 != t349) = true then (some false) else ((impl_IsRequest.f bt334.2.1 bt334.2.2.1 bt334.2.2.2).bind fun t350 => (if t350 = true then ((impl_OutcomeName.f bt341.1).bind fun t351 => (if t351.toList = ([] : List UInt8) then (laws_FnFollowed.j0 k bt334.1 true bt334.2.1 bt334.2.2.1 bt334.2.2.2 bt341.1 bt341.2.1 bt341.2.2.1 bt341.2.2.2) else (if (bt341.2.2.2.length : Int) < 1 then (laws_FnFollowed.j0 k bt334.1 true bt334.2.1 bt334.2.2.1 bt334.2.2.2 bt341.1 bt341.2.1 bt341.2.2.1 bt341.2.2.2) else (if (bt341.2.2.2.length : Int) > 6 then (laws_FnFollowed.j0 k bt334.1 true bt334.2.1 bt334.2.2.1 bt334.2.2.2 bt341.1 bt341.2.1 bt341.2.2.1 bt341.2.2.2) else (if 0 < (bt341.2.2.2.length : Int) then (laws_FnFollowed.j0 k bt334.1 (!(((rd_T33 bt341.2.2.2 0).f0) == bt334.2.1) || (!(((rd_T33 bt341.2.2.2 0).f1) == bt334.2.2.1))) bt334.2.1 bt334.2.2.1 bt334.2.2.2 bt341.1 bt341.2.1 bt341.2.2.1 bt341.2.2.2) else (none)))))) else (if bt341.1 = 0 then (some ((bt341.2.2.2.length : Int) == 0)) else (some false))))))))))) = some r := h
 clear h
 replace H := Option.bind_eq_some_iff.mp H
 obtain ⟨t333, A20, H⟩ := H
 replace H : (if t333 = true then (some true) else ((spec_DrawFollowRequest.f k l0).bind fun bt334 => ((impl_FollowRequest.f k bt334.1 bt334.2.1 bt334.2.2.1 bt334.2.2.2).bind fun bt341 => ((impl_IsRequest.f bt334.2.1 bt334.2.2.1 bt334.2.2.2).bind fun t348 => ((spec_IsRequest.f bt334.2.1 bt334.2.2.1 bt334.2.2.2).bind fun t349 => (if (t348 != t349) = true then (some false) else ((impl_IsRequest.f bt334.2.1 bt334.2.2.1 bt334.2.2.2).bind fun t350 => (if t350 = true then ((impl_OutcomeName.f bt341.1).bind fun t351 => (if t351.toList = ([] : List UInt8) then (laws_FnFollowed.j0 k bt334.1 true bt334.2.1 bt334.2.2.1 bt334.2.2.2 bt341.1 bt341.2.1 bt341.2.2.1 bt341.2.2.2) else (if (bt341.2.2.2.length : Int) < 1 then (laws_FnFollowed.j0 k bt334.1 true bt334.2.1 bt334.2.2.1 bt334.2.2.2 bt341.1 bt341.2.1 bt341.2.2.1 bt341.2.2.2) else (if (bt341.2.2.2.length : Int) > 6 then (laws_FnFollowed.j0 k bt334.1 true bt334.2.1 bt334.2.2.1 bt334.2.2.2 bt341.1 bt341.2.1 bt341.2.2.1 bt341.2.2.2) else (if 0 < (bt341.2.2.2.length : Int) then (laws_FnFollowed.j0 k bt334.1 (!(((rd_T33 bt341.2.2.2 0).f0) == bt334.2.1) || (!(((rd_T33 bt341.2.2.2 0).f1) == bt334.2.2.1))) bt334.2.1 bt334.2.2.1 bt334.2.2.2 bt341.1 bt341.2.1 bt341.2.2.1 bt341.2.2.2) else (none)))))) else (if bt341.1 = 0 then (some ((bt341.2.2.2.length : Int) == 0)) else (some false)))))))))) = some r := H
 have A2 := Aside0.mk A20
 clear A20
 by_cases c3 : t333 = true
 ·subst c3
  have H1 : (some true) = some r := by rw [if_pos rfl] at H; exact H
  clear H
  have H := H1
  clear H1
  obtain rfl := Option.some.inj H
  go_enter Try.func14, Try.ntmps14
  go_wp2_with (first | ((with_reducible refine gate_callee (f := 36) rfl ?_); refine goesL_ (some 12) rfl rfl Try.func36 (by kernel_rfl) rfl #[.slice A0 l0.length c0] rfl (by (try simp only [List.map_toArray, List.map_cons, List.map_nil]); first | done | rfl | (simp only [List.length_drop, List.length_take]; rfl)) ?_; (with_reducible refine (laws_big.calls _ _ l0 true _ ?side1 ?side2 A2.out).mono ?_); (case side1 => exact cB (HR0.out)); (case side2 => exact HC0.out); rintro e w' ⟨rfl, ⟨nd, rfl⟩⟩; refine ⟨_, rfl, ?_⟩))
  go_ret
  exact ⟨by first | rfl | (simp [errW_none, errW_some] <;> rfl) | (simp [*, errW_none, errW_some] <;> rfl), sB HB.out⟩
 ·replace c3 := Bool.eq_false_iff.mpr c3
  subst c3
  have H1 : ((spec_DrawFollowRequest.f k l0).bind fun bt334 => ((impl_FollowRequest.f k bt334.1 bt334.2.1 bt334.2.2.1 bt334.2.2.2).bind fun bt341 => ((impl_IsRequest.f bt334.2.1 bt334.2.2.1 bt334.2.2.2).bind fun t348 => ((spec_IsRequest.f bt334.2.1 bt334.2.2.1 bt334.2.2.2).bind fun t349 => (if (t348 != t349) = true then (some false) else ((impl_IsRequest.f bt334.2.1 bt334.2.2.1 bt334.2.2.2).bind fun t350 => (if t350 = true then ((impl_OutcomeName.f bt341.1).bind fun t351 => (if t351.toList = ([] : List UInt8) then (laws_FnFollowed.j0 k bt334.1 true bt334.2.1 bt334.2.2.1 bt334.2.2.2 bt341.1 bt341.2.1 bt341.2.2.1 bt341.2.2.2) else (if (bt341.2.2.2.length : Int) < 1 then (laws_FnFollowed.j0 k bt334.1 true bt334.2.1 bt334.2.2.1 bt334.2.2.2 bt341.1 bt341.2.1 bt341.2.2.1 bt341.2.2.2) else (if (bt341.2.2.2.length : Int) > 6 then (laws_FnFollowed.j0 k bt334.1 true bt334.2.1 bt334.2.2.1 bt334.2.2.2 bt341.1 bt341.2.1 bt341.2.2.1 bt341.2.2.2) else (if 0 < (bt341.2.2.2.length : Int) then (laws_FnFollowed.j0 k bt334.1 (!(((rd_T33 bt341.2.2.2 0).f0) == bt334.2.1) || (!(((rd_T33 bt341.2.2.2 0).f1) == bt334.2.2.1))) bt334.2.1 bt334.2.2.1 bt334.2.2.2 bt341.1 bt341.2.1 bt341.2.2.1 bt341.2.2.2) else (none)))))) else (if bt341.1 = 0 then (some ((bt341.2.2.2.length : Int) == 0)) else (some false))))))))) = some r := by rw [if_neg (show ¬ (false = true) by decide)] at H; exact H
  clear H
  have H := H1
  clear H1
  replace H := Option.bind_eq_some_iff.mp H
  obtain ⟨⟨t334, t337, t338, t339⟩, A40, H⟩ := H
  replace H : ((impl_FollowRequest.f k t334 t337 t338 t339).bind fun bt341 => ((impl_IsRequest.f t337 t338 t339).bind fun t348 => ((spec_IsRequest.f t337 t338 t339).bind fun t349 => (if (t348 != t349) = true then (some false) else ((impl_IsRequest.f t337 t338 t339).bind fun t350 => (if t350 = true then ((impl_OutcomeName.f bt341.1).bind fun t351 => (if t351.toList = ([] : List UInt8) then (laws_FnFollowed.j0 k t334 true t337 t338 t339 bt341.1 bt341.2.1 bt341.2.2.1 bt341.2.2.2) else (if (bt341.2.2.2.length : Int) < 1 then (laws_FnFollowed.j0 k t334 true t337 t338 t339 bt341.1 bt341.2.1 bt341.2.2.1 bt341.2.2.2) else (if (bt341.2.2.2.length : Int) > 6 then (laws_FnFollowed.j0 k t334 true t337 t338 t339 bt341.1 bt341.2.1 bt341.2.2.1 bt341.2.2.2) else (if 0 < (bt341.2.2.2.length : Int) then (laws_FnFollowed.j0 k t334 (!(((rd_T33 bt341.2.2.2 0).f0) == t337) || (!(((rd_T33 bt341.2.2.2 0).f1) == t338))) t337 t338 t339 bt341.1 bt341.2.1 bt341.2.2.1 bt341.2.2.2) else (none)))))) else (if bt341.1 = 0 then (some ((bt341.2.2.2.length : Int) == 0)) else (some false)))))))) = some r := H
  have A4 := Aside0.mk A40
  clear A40
  replace H := Option.bind_eq_some_iff.mp H
  obtain ⟨⟨t341, t342, t343, t344⟩, A50, H⟩ := H
  replace H : ((impl_IsRequest.f t337 t338 t339).bind fun t348 => ((spec_IsRequest.f t337 t338 t339).bind fun t349 => (if (t348 != t349) = true then (some false) else ((impl_IsRequest.f t337 t338 t339).bind fun t350 => (if t350 = true then ((impl_OutcomeName.f t341).bind fun t351 => (if t351.toList = ([] : List UInt8) then (laws_FnFollowed.j0 k t334 true t337 t338 t339 t341 t342 t343 t344) else (if (t344.length : Int) < 1 then (laws_FnFollowed.j0 k t334 true t337 t338 t339 t341 t342 t343 t344) else (if (t344.length : Int) > 6 then (laws_FnFollowed.j0 k t334 true t337 t338 t339 t341 t342 t343 t344) else (if 0 < (t344.length : Int) then (laws_FnFollowed.j0 k t334 (!(((rd_T33 t344 0).f0) == t337) || (!(((rd_T33 t344 0).f1) == t338))) t337 t338 t339 t341 t342 t343 t344) else (none)))))) else (if t341 = 0 then (some ((t344.length : Int) == 0)) else (some false))))))) = some r := H
  have A5 := Aside0.mk A50
  clear A50
  replace H := Option.bind_eq_some_iff.mp H
  obtain ⟨t348, A60, H⟩ := H
  replace H : ((spec_IsRequest.f t337 t338 t339).bind fun t349 => (if (t348 != t349) = true then (some false) else ((impl_IsRequest.f t337 t338 t339).bind fun t350 => (if t350 = true then ((impl_OutcomeName.f t341).bind fun t351 => (if t351.toList = ([] : List UInt8) then (laws_FnFollowed.j0 k t334 true t337 t338 t339 t341 t342 t343 t344) else (if (t344.length : Int) < 1 then (laws_FnFollowed.j0 k t334 true t337 t338 t339 t341 t342 t343 t344) else (if (t344.length : Int) > 6 then (laws_FnFollowed.j0 k t334 true t337 t338 t339 t341 t342 t343 t344) else (if 0 < (t344.length : Int) then (laws_FnFollowed.j0 k t334 (!(((rd_T33 t344 0).f0) == t337) || (!(((rd_T33 t344 0).f1) == t338))) t337 t338 t339 t341 t342 t343 t344) else (none)))))) else (if t341 = 0 then (some ((t344.length : Int) == 0)) else (some false)))))) = some r := H
  have A6 := Aside0.mk A60
  clear A60
  replace H := Option.bind_eq_some_iff.mp H
  obtain ⟨t349, A70, H⟩ := H
  replace H : (if (t348 != t349) = true then (some false) else ((impl_IsRequest.f t337 t338 t339).bind fun t350 => (if t350 = true then ((impl_OutcomeName.f t341).bind fun t351 => (if t351.toList = ([] : List UInt8) then (laws_FnFollowed.j0 k t334 true t337 t338 t339 t341 t342 t343 t344) else (if (t344.length : Int) < 1 then (laws_FnFollowed.j0 k t334 true t337 t338 t339 t341 t342 t343 t344) else (if (t344.length : Int) > 6 then (laws_FnFollowed.j0 k t334 true t337 t338 t339 t341 t342 t343 t344) else (if 0 < (t344.length : Int) then (laws_FnFollowed.j0 k t334 (!(((rd_T33 t344 0).f0) == t337) || (!(((rd_T33 t344 0).f1) == t338))) t337 t338 t339 t341 t342 t343 t344) else (none)))))) else (if t341 = 0 then (some ((t344.length : Int) == 0)) else (some false))))) = some r := H
  have A7 := Aside0.mk A70
  clear A70
  by_cases c8 : (t348 != t349) = true
  ·rw [if_pos c8] at H
   have c8b0 : (t348 != t349) = true := c8
   (try (have c8b1 : decide (t348 = t349) = false := by simpa using c8))
   (try (have c8b2 : (t348 == t349) = false := by simpa using c8))
   (try (have c8b3 : ¬ (t348 = t349) := by simpa using c8))
   clear c8
   exact absurd ((Option.some.inj H).trans HRT.out) (by decide)
  ·rw [if_neg c8] at H
   have c8b0 : (t348 != t349) = false := by simpa using c8
   (try (have c8b1 : decide (t348 = t349) = true := by simpa using c8))
   (try (have c8b2 : (t348 == t349) = true := by simpa using c8))
   clear c8
   replace H := Option.bind_eq_some_iff.mp H
   obtain ⟨t350, A90, H⟩ := H
   replace H : (if t350 = true then ((impl_OutcomeName.f t341).bind fun t351 => (if t351.toList = ([] : List UInt8) then (laws_FnFollowed.j0 k t334 true t337 t338 t339 t341 t342 t343 t344) else (if (t344.length : Int) < 1 then (laws_FnFollowed.j0 k t334 true t337 t338 t339 t341 t342 t343 t344) else (if (t344.length : Int) > 6 then (laws_FnFollowed.j0 k t334 true t337 t338 t339 t341 t342 t343 t344) else (if 0 < (t344.length : Int) then (laws_FnFollowed.j0 k t334 (!(((rd_T33 t344 0).f0) == t337) || (!(((rd_T33 t344 0).f1) == t338))) t337 t338 t339 t341 t342 t343 t344) else (none)))))) else (if t341 = 0 then (some ((t344.length : Int) == 0)) else (some false))) = some r := H
   have A9 := Aside0.mk A90
   clear A90
   by_cases c10 : t350 = true
   ·subst c10
    have H1 : ((impl_OutcomeName.f t341).bind fun t351 => (if t351.toList = ([] : List UInt8) then (laws_FnFollowed.j0 k t334 true t337 t338 t339 t341 t342 t343 t344) else (if (t344.length : Int) < 1 then (laws_FnFollowed.j0 k t334 true t337 t338 t339 t341 t342 t343 t344) else (if (t344.length : Int) > 6 then (laws_FnFollowed.j0 k t334 true t337 t338 t339 t341 t342 t343 t344) else (if 0 < (t344.length : Int) then (laws_FnFollowed.j0 k t334 (!(((rd_T33 t344 0).f0) == t337) || (!(((rd_T33 t344 0).f1) == t338))) t337 t338 t339 t341 t342 t343 t344) else (none)))))) = some r := by rw [if_pos rfl] at H; exact H
    clear H
    have H := H1
    clear H1
    have HC11 := Aside0.mk H
    clear H
    go_enter Try.func14, Try.ntmps14
    try go_wp2_with (first | ((with_reducible refine gate_callee (f := 36) rfl ?_); refine goesL_ (some 12) rfl rfl Try.func36 (by kernel_rfl) rfl #[.slice A0 l0.length c0] rfl (by (try simp only [List.map_toArray, List.map_cons, List.map_nil]); first | done | rfl | (simp only [List.length_drop, List.length_take]; rfl)) ?_; (with_reducible refine (laws_big.calls _ _ l0 false _ ?side1 ?side2 A2.out).mono ?_); (case side1 => exact cB (HR0.out)); (case side2 => exact HC0.out); rintro e w' ⟨rfl, ⟨nd, rfl⟩⟩; refine ⟨_, rfl, ?_⟩) | ((with_reducible refine gate_callee (f := 79) rfl ?_); refine goesL_ (some 15) rfl rfl Try.func79 (by kernel_rfl) rfl #[.slice A0 l0.length c0] rfl (by (try simp only [List.map_toArray, List.map_cons, List.map_nil]); first | done | rfl | (simp only [List.length_drop, List.length_take]; rfl)) ?_; (with_reducible refine (spec_DrawFollowRequest.calls k _ _ l0 t334 t337 t338 t339 _ ?side1 ?side2 A4.out).mono ?_); (case side1 => exact cB (HR0.out)); (case side2 => exact HC0.out); rintro e w12 ⟨v335, rfl, ho0, hb⟩; refine ⟨_, rfl, ?_⟩; have n0_ := am (Kd.R_lower ho0 (below_size (sB HB.out))); have n1_ := am (below_step (sB HB.out) hb); clear HB; have HO336 := n0_; have HB := n1_; clear n0_ n1_; (try clear hb); (try clear hb2); (try clear hk); (try clear hi); (try clear ho0)) | ((with_reducible refine gate_dst (N := 4) rfl ?_); (try (refine gate_guard (by rfl) ?_; dsimp only)); refine box_event ?hg (N := 4) ?hd (cs := #[.int .i64 0, .int .i64 0, .int .i64 0]) (t := 86) ?hr ?_; (case hd => rfl); (case hg => rfl); (case hr => first | (go_simp; done) | (go_simp; rfl)); intro gb340 hg w13 hbox hb; have n0_ := am (Kd.R_below (rB HO336.out) hb); have q_ := hbx_ (sB HB.out) hg hb; have n1_ := q_.1; have n2_ := am (hbox); have n3_ := q_.2; have n4_ := n3_; clear HO336; clear HB; have HO336 := n0_; have HB := n1_; have BK340 := n2_; have GW340 := n3_; have GE340 := n4_; clear n0_ n1_ n2_ n3_ n4_; clear hb hbox hg; obtain ⟨hcz14_0, hcz14_1, hcz14_2, hfz14_0, hfz14_1, hfz14_2⟩ := blk3 BK340.out; obtain ⟨Ao15, co15, eo15⟩ := Kd.R_slice HO336.out; subst eo15) | ((with_reducible refine gate_callee (f := 75) rfl ?_); refine goesL_ (some 20) rfl rfl Try.func75 (by kernel_rfl) rfl #[.slice Ao15 t334.length co15, .agg #[.int .i64 t337, .int .i64 t338, .int .i64 t339]] rfl (by (try simp only [List.map_toArray, List.map_cons, List.map_nil]); first | done | rfl | (simp only [List.length_drop, List.length_take]; rfl)) ?_; (with_reducible refine (impl_FollowRequest.calls k _ _ t334 t337 t338 t339 t341 t342 t343 t344 _ ?side1 ?side2 A5.out).mono ?_); (case side1 => refine (Kd.R_reads' (e := 35) (base := w.heap.size) (ok := fun k_ => True) (n := t334.length) (c := co15) ?_).2.2; exact (by (with_reducible repeat (first | apply Kd.R_alloc | apply Kd.R_drewN | apply Kd.R_drew)); exact (Kd.R_mono (Kd.R_far (p := ⟨gb340, 2, none⟩) (Kd.R_far (p := ⟨gb340, 1, none⟩) (Kd.R_far (p := ⟨gb340, 0, none⟩) (Kd.R_types HO336.out BK340.out (by decide)) (fun _ hk => hk.2) (.int .i64 t337)) (fun _ hk => hk.2) (.int .i64 t338)) (fun _ hk => hk.2) (.int .i64 t339)) (fun _ h_ => h_.1)))); (case side2 => exact (Kd.R_reads' HO336.out).2.1); rintro e w16 ⟨v345, rfl, ho0, hb⟩; refine ⟨_, rfl, ?_⟩; have n0_ := am (Kd.R_below (by (with_reducible repeat (first | apply Kd.R_alloc | apply Kd.R_drewN | apply Kd.R_drew)); exact (Kd.R_mono (Kd.R_far (p := ⟨gb340, 2, none⟩) (Kd.R_far (p := ⟨gb340, 1, none⟩) (Kd.R_far (p := ⟨gb340, 0, none⟩) (Kd.R_types HO336.out BK340.out (by decide)) (fun _ hk => hk.2) (.int .i64 t337)) (fun _ hk => hk.2) (.int .i64 t338)) (fun _ hk => hk.2) (.int .i64 t339)) (fun _ h_ => h_.1))) hb); have n1_ := am (Kd.R_lower ho0 (below_size (sB HB.out))); have n2_ := am (blk_below (g := gb340) (o := .cells #[.int .i64 t337, .int .i64 t338, .int .i64 t339] 86 (0, 0)) (by refine bB ?_; refine blk_put (cs := #[.int .i64 t337, .int .i64 t338, .int .i64 0]) ?_ 2 _ rfl; refine bB ?_; refine blk_put (cs := #[.int .i64 t337, .int .i64 0, .int .i64 0]) ?_ 1 _ rfl; refine bB ?_; refine blk_put (cs := #[.int .i64 0, .int .i64 0, .int .i64 0]) ?_ 0 _ rfl; refine bB ?_; exact BK340.out) hb); have n3_ := am (below_step (sB HB.out) hb); clear HO336; clear BK340; clear HB; have HO336 := n0_; have HO346 := n1_; have BK340 := n2_; have HB := n3_; clear n0_ n1_ n2_ n3_; (try clear hb); (try clear hb2); (try clear hk); (try clear hi); (try clear ho0)) | ((with_reducible refine gate_dst (N := 5) rfl ?_); (try (refine gate_guard (by rfl) ?_; dsimp only)); refine box_event ?hg (N := 5) ?hd (cs := #[.int .i64 0, .int .i64 0, .int .i64 0, .slice none 0 0]) (t := 105) ?hr ?_; (case hd => rfl); (case hg => rfl); (case hr => first | (go_simp; done) | (go_simp; rfl)); intro gb347 hg w17 hbox hb; have n0_ := am (Kd.R_below (rB HO336.out) hb); have n1_ := am (Kd.R_below (rB HO346.out) hb); have n2_ := am (blk_below (bB BK340.out) hb); have q_ := hbx_ (sB HB.out) hg hb; have n3_ := q_.1; have n4_ := am (hbox); have n5_ := q_.2; have n6_ := n5_; have n7_ := am ((by rw [hg]; exact Nat.ne_of_lt (blk_lt (g := gb340) (o := .cells #[.int .i64 t337, .int .i64 t338, .int .i64 t339] 86 (0, 0)) (bB BK340.out)) : gb340 ≠ gb347)); have n8_ := am ((by rw [hg]; exact Nat.ne_of_gt (blk_lt (g := gb340) (o := .cells #[.int .i64 t337, .int .i64 t338, .int .i64 t339] 86 (0, 0)) (bB BK340.out)) : gb347 ≠ gb340)); clear HO336; clear HO346; clear BK340; clear HB; have HO336 := n0_; have HO346 := n1_; have BK340 := n2_; have HB := n3_; have BK347 := n4_; have GW347 := n5_; have GE347 := n6_; have NB340_347 := n7_; have NB347_340 := n8_; clear n0_ n1_ n2_ n3_ n4_ n5_ n6_ n7_ n8_; clear hb hbox hg; have hnb18 := NB347_340.out; have hnc18 := NB340_347.out; obtain ⟨hcz19_0, hcz19_1, hcz19_2, hcz19_3, hfz19_0, hfz19_1, hfz19_2, hfz19_3⟩ := blk4 BK347.out; obtain ⟨Ao20, co20, eo20⟩ := Kd.R_slice HO346.out; subst eo20))
    have n0_ : Aside0 (Kd.R k35 35 ((((w17.setCell ⟨gb347, 0, none⟩ (.int .i64 t341)).setCell ⟨gb347, 1, none⟩ (.int .i64 t342)).setCell ⟨gb347, 2, none⟩ (.int .i64 t343)).setCell ⟨gb347, 3, none⟩ (.slice Ao20 t344.length co20)) w.heap.size (fun _ => True) (.slice Ao15 t334.length co15) t334) := ⟨by (with_reducible repeat (first | apply Kd.R_alloc | apply Kd.R_drewN | apply Kd.R_drew)); exact Kd.R_mono (Kd.R_far (p := ⟨gb347, 3, none⟩) (Kd.R_far (p := ⟨gb347, 2, none⟩) (Kd.R_far (p := ⟨gb347, 1, none⟩) (Kd.R_far (p := ⟨gb347, 0, none⟩) (Kd.R_types HO336.out BK347.out (by decide)) (fun _ hk => hk.2) (.int .i64 t341)) (fun _ hk => hk.2) (.int .i64 t342)) (fun _ hk => hk.2) (.int .i64 t343)) (fun _ hk => hk.2) (.slice Ao20 t344.length co20)) (fun _ hk => trivial)⟩
    have n1_ : Aside0 (Kd.R k33 33 ((((w17.setCell ⟨gb347, 0, none⟩ (.int .i64 t341)).setCell ⟨gb347, 1, none⟩ (.int .i64 t342)).setCell ⟨gb347, 2, none⟩ (.int .i64 t343)).setCell ⟨gb347, 3, none⟩ (.slice Ao20 t344.length co20)) w.heap.size (fun _ => True) (.slice Ao20 t344.length co20) t344) := ⟨by (with_reducible repeat (first | apply Kd.R_alloc | apply Kd.R_drewN | apply Kd.R_drew)); exact Kd.R_mono (Kd.R_far (p := ⟨gb347, 3, none⟩) (Kd.R_far (p := ⟨gb347, 2, none⟩) (Kd.R_far (p := ⟨gb347, 1, none⟩) (Kd.R_far (p := ⟨gb347, 0, none⟩) (Kd.R_types HO346.out BK347.out (by decide)) (fun _ hk => hk.2) (.int .i64 t341)) (fun _ hk => hk.2) (.int .i64 t342)) (fun _ hk => hk.2) (.int .i64 t343)) (fun _ hk => hk.2) (.slice Ao20 t344.length co20)) (fun _ hk => trivial)⟩
    have n2_ : Aside0 (((((w17.setCell ⟨gb347, 0, none⟩ (.int .i64 t341)).setCell ⟨gb347, 1, none⟩ (.int .i64 t342)).setCell ⟨gb347, 2, none⟩ (.int .i64 t343)).setCell ⟨gb347, 3, none⟩ (.slice Ao20 t344.length co20)).heap[gb340]? = some (.cells #[.int .i64 t337, .int .i64 t338, .int .i64 t339] 86 (0, 0))) := ⟨by refine bB ?_; refine blk_far ?_ NB340_347.out _; refine bB ?_; refine blk_far ?_ NB340_347.out _; refine bB ?_; refine blk_far ?_ NB340_347.out _; refine bB ?_; refine blk_far ?_ NB340_347.out _; refine bB ?_; exact BK340.out⟩
    have n3_ : Aside0 (((((w17.setCell ⟨gb347, 0, none⟩ (.int .i64 t341)).setCell ⟨gb347, 1, none⟩ (.int .i64 t342)).setCell ⟨gb347, 2, none⟩ (.int .i64 t343)).setCell ⟨gb347, 3, none⟩ (.slice Ao20 t344.length co20)).heap[gb347]? = some (.cells #[.int .i64 t341, .int .i64 t342, .int .i64 t343, .slice Ao20 t344.length co20] 105 (0, 0))) := ⟨by refine bB ?_; refine blk_put (cs := #[.int .i64 t341, .int .i64 t342, .int .i64 t343, .slice none 0 0]) ?_ 3 _ rfl; refine bB ?_; refine blk_put (cs := #[.int .i64 t341, .int .i64 t342, .int .i64 0, .slice none 0 0]) ?_ 2 _ rfl; refine bB ?_; refine blk_put (cs := #[.int .i64 t341, .int .i64 0, .int .i64 0, .slice none 0 0]) ?_ 1 _ rfl; refine bB ?_; refine blk_put (cs := #[.int .i64 0, .int .i64 0, .int .i64 0, .slice none 0 0]) ?_ 0 _ rfl; refine bB ?_; exact BK347.out⟩
    have n4_ : Aside0 (Below w.heap.size w ((((w17.setCell ⟨gb347, 0, none⟩ (.int .i64 t341)).setCell ⟨gb347, 1, none⟩ (.int .i64 t342)).setCell ⟨gb347, 2, none⟩ (.int .i64 t343)).setCell ⟨gb347, 3, none⟩ (.slice Ao20 t344.length co20))) := ⟨sB HB.out⟩
    (try clear HO336)
    (try clear HO346)
    (try clear BK340)
    (try clear BK347)
    (try clear HB)
    generalize ((((w17.setCell ⟨gb347, 0, none⟩ (.int .i64 t341)).setCell ⟨gb347, 1, none⟩ (.int .i64 t342)).setCell ⟨gb347, 2, none⟩ (.int .i64 t343)).setCell ⟨gb347, 3, none⟩ (.slice Ao20 t344.length co20)) = w21 at n0_ n1_ n2_ n3_ n4_ ⊢
    have HO336 := n0_
    have HO346 := n1_
    have BK340 := n2_
    have BK347 := n3_
    have HB := n4_
    clear n0_ n1_ n2_ n3_ n4_
    replace HO336 := am (Kd.R_drew HO336.out)
    replace HO346 := am (Kd.R_drew HO346.out)
    replace BK340 := am (blk_drew BK340.out)
    replace BK347 := am (blk_drew BK347.out)
    replace HB := am (below_drew1 HB.out)
    refine start_ (n := 5) (S := fun w' => w'.cell? ⟨gb340, 0, none⟩ = some (.int .i64 t337) ∧ w'.cell? ⟨gb340, 1, none⟩ = some (.int .i64 t338) ∧ w'.cell? ⟨gb340, 2, none⟩ = some (.int .i64 t339)) (ds := []) #[false, false, false, false, false] (by kernel_rfl) rfl rfl ⟨(blk_cell BK340.out 0).trans rfl, (blk_cell BK340.out 1).trans rfl, (blk_cell BK340.out 2).trans rfl⟩ (fun hHeld => ?_)
    generalize w21.drew = w22 at HO336 HO346 BK340 BK347 HB hHeld ⊢
    refine take_ (i := 0) (N := some 21) (v := ?_) (a' := ?_) #[true, false, false, false, false] rfl rfl (by kernel_rfl) (fun _ _ _ h => h) (Or.inl ⟨by rfl, ?_⟩) hHeld ?_ ?_
    rotate_left
    ·rintro w' ⟨s0, s1, s2⟩
     go_simp
     with_reducible rfl
    rotate_left
    ·simp only [Act.put, List.setIfInBounds_toArray, List.set_cons_zero, List.set_cons_succ, i64_w, i32_w]
     rfl
    refine take_ (i := 2) (N := some 23) (v := ?_) (a' := ?_) #[true, false, true, false, false] rfl rfl (by kernel_rfl) (fun _ _ _ h => h) (Or.inl ⟨by rfl, ?_⟩) hHeld ?_ ?_
    rotate_left
    ·rintro w' ⟨s0, s1, s2⟩
     go_simp
     with_reducible rfl
    rotate_left
    ·simp only [Act.put, List.setIfInBounds_toArray, List.set_cons_zero, List.set_cons_succ, i64_w, i32_w]
     rfl
    refine one_ (i := 1) (N := some 22) #[true, true, true, false, false] rfl rfl (by kernel_rfl) (by decide) (fun K hK => ?_)
    refine goes_ Try.func63 (by kernel_rfl) rfl #[.agg #[.int .i64 t337, .int .i64 t338, .int .i64 t339]] (by rfl) rfl rfl (by (try simp only [List.map_toArray, List.map_cons, List.map_nil]); first | done | rfl | (simp only [List.length_drop, List.length_take]; rfl)) ?_
    with_reducible refine (impl_IsRequest.calls t337 t338 t339 t348 _ A6.out).mono ?_
    rintro e w23 ⟨rfl, hb⟩
    refine ⟨_, rfl, ?_⟩
    replace HO336 := am (Kd.R_below (rB HO336.out) hb)
    replace HO346 := am (Kd.R_below (rB HO346.out) hb)
    replace BK340 := am (blk_below (bB BK340.out) hb)
    replace BK347 := am (blk_below (bB BK347.out) hb)
    replace HB := am (below_step (sB HB.out) hb)
    (try clear hb)
    (try clear hb2)
    (try clear hk)
    (try clear hi)
    refine hK.out _ _ ⟨(blk_cell BK340.out 0).trans rfl, (blk_cell BK340.out 1).trans rfl, (blk_cell BK340.out 2).trans rfl⟩ (fun hHeld => ?_)
    clear hK K
    refine norm_ (a' := ?_) ?_ ?_
    rotate_left
    ·show Act.put _ (some 22) _ = _
     simp only [Act.put, List.setIfInBounds_toArray, List.set_cons_zero, List.set_cons_succ, i64_w, i32_w]
     rfl
    refine one_ (i := 3) (N := some 24) #[true, true, true, true, false] rfl rfl (by kernel_rfl) (by decide) (fun K hK => ?_)
    refine goes_ Try.func80 (by kernel_rfl) rfl #[.agg #[.int .i64 t337, .int .i64 t338, .int .i64 t339]] (by rfl) rfl rfl (by (try simp only [List.map_toArray, List.map_cons, List.map_nil]); first | done | rfl | (simp only [List.length_drop, List.length_take]; rfl)) ?_
    with_reducible refine (spec_IsRequest.calls t337 t338 t339 t349 _ A7.out).mono ?_
    rintro e w24 ⟨rfl, hb⟩
    refine ⟨_, rfl, ?_⟩
    replace HO336 := am (Kd.R_below (rB HO336.out) hb)
    replace HO346 := am (Kd.R_below (rB HO346.out) hb)
    replace BK340 := am (blk_below (bB BK340.out) hb)
    replace BK347 := am (blk_below (bB BK347.out) hb)
    replace HB := am (below_step (sB HB.out) hb)
    (try clear hb)
    (try clear hb2)
    (try clear hk)
    (try clear hi)
    refine hK.out _ _ ⟨(blk_cell BK340.out 0).trans rfl, (blk_cell BK340.out 1).trans rfl, (blk_cell BK340.out 2).trans rfl⟩ (fun hHeld => ?_)
    clear hK K
    refine norm_ (a' := ?_) ?_ ?_
    rotate_left
    ·show Act.put _ (some 24) _ = _
     simp only [Act.put, List.setIfInBounds_toArray, List.set_cons_zero, List.set_cons_succ, i64_w, i32_w]
     rfl
    refine pure_ (i := 4) (N := some 25) (v := ?_) (a' := ?_) #[true, true, true, true, true] rfl rfl (by kernel_rfl) (fun _ _ _ h => h) (Or.inl ⟨by rfl, ?_⟩) ?_ ?_
    rotate_left
    ·intro w'
     go_simp
     with_reducible rfl
    rotate_left
    ·simp only [Act.put, List.setIfInBounds_toArray, List.set_cons_zero, List.set_cons_succ, i64_w, i32_w]
     rfl
    refine done_ (by kernel_rfl) ?_
    have hcz25_0 : w24.cell? ⟨gb340, 0, none⟩ = some (.int .i64 t337) := (blk_cell BK340.out 0).trans rfl
    have hcz25_1 : w24.cell? ⟨gb340, 1, none⟩ = some (.int .i64 t338) := (blk_cell BK340.out 1).trans rfl
    have hcz25_2 : w24.cell? ⟨gb340, 2, none⟩ = some (.int .i64 t339) := (blk_cell BK340.out 2).trans rfl
    have hfz25_0 := blk_frozen BK340.out 0
    have hfz25_1 := blk_frozen BK340.out 1
    have hfz25_2 := blk_frozen BK340.out 2
    go_upto_region 9 with (first | ((with_reducible refine gate_callee (f := 63) rfl ?_); refine goesL_ (some 27) rfl rfl Try.func63 (by kernel_rfl) rfl #[.agg #[.int .i64 t337, .int .i64 t338, .int .i64 t339]] rfl (by (try simp only [List.map_toArray, List.map_cons, List.map_nil]); first | done | rfl | (simp only [List.length_drop, List.length_take]; rfl)) ?_; (with_reducible refine (impl_IsRequest.calls t337 t338 t339 true _ A9.out).mono ?_); rintro e w26 ⟨rfl, hb⟩; refine ⟨_, rfl, ?_⟩; replace HO336 := am (Kd.R_below (rB HO336.out) hb); replace HO346 := am (Kd.R_below (rB HO346.out) hb); replace BK340 := am (blk_below (bB BK340.out) hb); replace BK347 := am (blk_below (bB BK347.out) hb); replace HB := am (below_step (sB HB.out) hb); (try clear hb); (try clear hb2); (try clear hk); (try clear hi)))
    (try simp only [Act.put, List.setIfInBounds_toArray, List.set_cons_zero, List.set_cons_succ])
    go_cut [62] (fun v62 wc => ∃ (kq : Nat) (x62_10 : Bool), v62 = .bool x62_10 ∧ Aside0 (laws_FnFollowed.j0 kq t334 x62_10 t337 t338 t339 t341 t342 t343 t344 = some r) ∧ Aside0 (kq ≤ k) ∧ Aside0 (Kd.R k35 35 wc w.heap.size (fun _ => True) (.slice Ao15 t334.length co15) t334) ∧ Aside0 (Kd.R k33 33 wc w.heap.size (fun _ => True) (.slice Ao20 t344.length co20) t344) ∧ Aside0 (wc.heap[gb340]? = some (.cells #[.int .i64 t337, .int .i64 t338, .int .i64 t339] 86 (0, 0))) ∧ Aside0 (wc.heap[gb347]? = some (.cells #[.int .i64 t341, .int .i64 t342, .int .i64 t343, (.slice Ao20 t344.length co20)] 105 (0, 0))) ∧ Aside0 (Below w.heap.size w wc))
    case first =>
     have H := HC11.out
     clear HC11
     replace H := Option.bind_eq_some_iff.mp H
     obtain ⟨t351, A270, H⟩ := H
     replace H : (if t351.toList = ([] : List UInt8) then (laws_FnFollowed.j0 k t334 true t337 t338 t339 t341 t342 t343 t344) else (if (t344.length : Int) < 1 then (laws_FnFollowed.j0 k t334 true t337 t338 t339 t341 t342 t343 t344) else (if (t344.length : Int) > 6 then (laws_FnFollowed.j0 k t334 true t337 t338 t339 t341 t342 t343 t344) else (if 0 < (t344.length : Int) then (laws_FnFollowed.j0 k t334 (!(((rd_T33 t344 0).f0) == t337) || (!(((rd_T33 t344 0).f1) == t338))) t337 t338 t339 t341 t342 t343 t344) else (none))))) = some r := H
     have A27 := Aside0.mk A270
     clear A270
     by_cases c28 : t351.toList = ([] : List UInt8)
     ·rw [if_pos c28] at H
      have c28b0 : (t351.toList == ([] : List UInt8)) = true := beq_iff_eq.mpr c28
      have c28b1 : (t351.toList != ([] : List UInt8)) = false := bne_eq_false_iff_eq.mpr c28
      clear c28
      (first | rw [c28b0] | (simp only [i64_w, i32_w]; rw [c28b0]) | skip)
      have H' := Aside0.mk H
      clear H
      try go_wp2
      replace HO336 := am (Kd.R_drew HO336.out)
      replace HO346 := am (Kd.R_drew HO346.out)
      replace BK340 := am (blk_drew BK340.out)
      replace BK347 := am (blk_drew BK347.out)
      replace HB := am (below_drew1 HB.out)
      refine start_ (n := 25) (S := fun w' => w'.cell? ⟨gb347, 0, none⟩ = some (.int .i64 t341) ∧ w'.cell? ⟨gb347, 1, none⟩ = some (.int .i64 t342) ∧ w'.cell? ⟨gb347, 2, none⟩ = some (.int .i64 t343) ∧ w'.cell? ⟨gb347, 3, none⟩ = some (.slice Ao20 t344.length co20)) (ds := []) #[z,z,z,z,z,z,z,z,z,z,z,z,z,z,z,z,z,z,z,z,z,z,z,z,z] (by kernel_rfl) rfl rfl ⟨(blk_cell BK347.out 0).trans rfl, (blk_cell BK347.out 1).trans rfl, (blk_cell BK347.out 2).trans rfl, (blk_cell BK347.out 3).trans rfl⟩ (fun hHeld => ?_); refine with_tabW laws_FnFollowed.tab9 laws_FnFollowed.bits9 (fun HT_ HW_ => ?_)
      generalize w26.drew = w29 at HO336 HO346 BK340 BK347 HB hHeld ⊢
      refine pure_ (i := 0) (N := some 38) (v := ?_) (a' := ?_) #[o,z,z,z,z,z,z,z,z,z,z,z,z,z,z,z,z,z,z,z,z,z,z,z,z] rfl rfl (any_of HT_.out (by kernel_rfl)) (fun _ _ _ h => h) (Or.inl ⟨by rfl, ?_⟩) ?_ ?_
      rotate_left
      ·intro w'
       go_simp
       with_reducible rfl
      rotate_left
      ·simp only [Act.put, List.setIfInBounds_toArray, List.set_cons_zero, List.set_cons_succ, i64_w, i32_w]
       rfl
      refine take_ (i := 1) (N := some 39) (v := ?_) (a' := ?_) #[o,o,z,z,z,z,z,z,z,z,z,z,z,z,z,z,z,z,z,z,z,z,z,z,z] rfl rfl (take_ofW HT_.out HW_.out (by kernel_rfl)) (fun _ _ _ h => h) (Or.inl ⟨by rfl, ?_⟩) hHeld ?_ ?_
      rotate_left
      ·rintro w' ⟨s0, s1, s2, s3⟩
       go_simp
       with_reducible rfl
      rotate_left
      ·simp only [Act.put, List.setIfInBounds_toArray, List.set_cons_zero, List.set_cons_succ, i64_w, i32_w]
       rfl
      refine one_ (i := 2) (N := some 40) #[o,o,o,z,z,z,z,z,z,z,z,z,z,z,z,z,z,z,z,z,z,z,z,z,z] rfl rfl (one_of HT_.out (by kernel_rfl)) (by decide) (fun K hK => ?_)
      refine goes_ Try.func81 (by kernel_rfl) rfl #[.int .i64 t341] (by rfl) rfl rfl (by (try simp only [List.map_toArray, List.map_cons, List.map_nil]); first | done | rfl | (simp only [List.length_drop, List.length_take]; rfl)) ?_
      with_reducible refine (impl_OutcomeName.calls t341 t351 _ A27.out).mono ?_
      rintro e w' ⟨rfl, ⟨nd, rfl⟩⟩
      refine ⟨_, rfl, ?_⟩
      refine hK.out _ _ ⟨(blk_cell BK347.out 0).trans rfl, (blk_cell BK347.out 1).trans rfl, (blk_cell BK347.out 2).trans rfl, (blk_cell BK347.out 3).trans rfl⟩ (fun hHeld => ?_)
      clear hK K
      refine norm_ (a' := ?_) ?_ ?_
      rotate_left
      ·show Act.put _ (some 40) _ = _
       simp only [Act.put, List.setIfInBounds_toArray, List.set_cons_zero, List.set_cons_succ, i64_w, i32_w]
       rfl
      refine pure_ (i := 3) (N := some 41) (v := ?_) (a' := ?_) #[o,o,o,o,z,z,z,z,z,z,z,z,z,z,z,z,z,z,z,z,z,z,z,z,z] rfl rfl (any_of HT_.out (by kernel_rfl)) (fun _ _ _ h => h) (Or.inl ⟨by rfl, ?_⟩) ?_ ?_
      rotate_left
      ·intro w'
       go_simp
       with_reducible rfl
      rotate_left
      ·simp only [Act.put, List.setIfInBounds_toArray, List.set_cons_zero, List.set_cons_succ, i64_w, i32_w]
       rfl
      refine pure_ (i := 4) (N := some 42) (v := ?_) (a' := ?_) #[o,o,o,o,o,z,z,z,z,z,z,z,z,z,z,z,z,z,z,z,z,z,z,z,z] rfl rfl (any_of HT_.out (by kernel_rfl)) (fun _ _ _ h => h) (Or.inl ⟨by rfl, ?_⟩) ?_ ?_
      rotate_left
      ·intro w'
       go_simp
       with_reducible rfl
      rotate_left
      ·simp only [Act.put, List.setIfInBounds_toArray, List.set_cons_zero, List.set_cons_succ, i64_w, i32_w]
       rfl
      refine pure_ (i := 5) (N := some 43) (v := undef) (a' := ?_) #[o,o,o,o,o,o,z,z,z,z,z,z,z,z,z,z,z,z,z,z,z,z,z,z,z] rfl rfl (any_of HT_.out (by kernel_rfl)) (fun _ _ _ h => h) (Or.inr ⟨by rfl, rfl⟩) ?_ ?_
      rotate_left
      ·simp only [Act.put, List.setIfInBounds_toArray, List.set_cons_zero, List.set_cons_succ, i64_w, i32_w]
       rfl
      refine pure_ (i := 6) (N := some 44) (v := undef) (a' := ?_) #[o,o,o,o,o,o,o,z,z,z,z,z,z,z,z,z,z,z,z,z,z,z,z,z,z] rfl rfl (any_of HT_.out (by kernel_rfl)) (fun _ _ _ h => h) (Or.inr ⟨by rfl, rfl⟩) ?_ ?_
      rotate_left
      ·simp only [Act.put, List.setIfInBounds_toArray, List.set_cons_zero, List.set_cons_succ, i64_w, i32_w]
       rfl
      refine pure_ (i := 7) (N := some 45) (v := undef) (a' := ?_) #[o,o,o,o,o,o,o,o,z,z,z,z,z,z,z,z,z,z,z,z,z,z,z,z,z] rfl rfl (any_of HT_.out (by kernel_rfl)) (fun _ _ _ h => h) (Or.inr ⟨by rfl, rfl⟩) ?_ ?_
      rotate_left
      ·simp only [Act.put, List.setIfInBounds_toArray, List.set_cons_zero, List.set_cons_succ, i64_w, i32_w]
       rfl
      refine pure_ (i := 8) (N := some 46) (v := undef) (a' := ?_) #[o,o,o,o,o,o,o,o,o,z,z,z,z,z,z,z,z,z,z,z,z,z,z,z,z] rfl rfl (any_of HT_.out (by kernel_rfl)) (fun _ _ _ h => h) (Or.inr ⟨by rfl, rfl⟩) ?_ ?_
      rotate_left
      ·simp only [Act.put, List.setIfInBounds_toArray, List.set_cons_zero, List.set_cons_succ, i64_w, i32_w]
       rfl
      refine pure_ (i := 9) (N := some 47) (v := ?_) (a' := ?_) #[o,o,o,o,o,o,o,o,o,o,z,z,z,z,z,z,z,z,z,z,z,z,z,z,z] rfl rfl (any_of HT_.out (by kernel_rfl)) (fun _ _ _ h => h) (Or.inl ⟨by rfl, ?_⟩) ?_ ?_
      rotate_left
      ·intro w'
       go_simp
       with_reducible rfl
      rotate_left
      ·simp only [Act.put, List.setIfInBounds_toArray, List.set_cons_zero, List.set_cons_succ, i64_w, i32_w]
       rfl
      refine pure_ (i := 10) (N := some 48) (v := ?_) (a' := ?_) #[o,o,o,o,o,o,o,o,o,o,o,z,z,z,z,z,z,z,z,z,z,z,z,z,z] rfl rfl (any_of HT_.out (by kernel_rfl)) (fun _ _ _ h => h) (Or.inl ⟨by rfl, ?_⟩) ?_ ?_
      rotate_left
      ·intro w'
       go_simp
       with_reducible rfl
      rotate_left
      ·simp only [Act.put, List.setIfInBounds_toArray, List.set_cons_zero, List.set_cons_succ, i64_w, i32_w]
       rfl
      refine pure_ (i := 11) (N := some 49) (v := undef) (a' := ?_) #[o,o,o,o,o,o,o,o,o,o,o,o,z,z,z,z,z,z,z,z,z,z,z,z,z] rfl rfl (any_of HT_.out (by kernel_rfl)) (fun _ _ _ h => h) (Or.inr ⟨by rfl, rfl⟩) ?_ ?_
      rotate_left
      ·simp only [Act.put, List.setIfInBounds_toArray, List.set_cons_zero, List.set_cons_succ, i64_w, i32_w]
       rfl
      refine pure_ (i := 12) (N := some 50) (v := undef) (a' := ?_) #[o,o,o,o,o,o,o,o,o,o,o,o,o,z,z,z,z,z,z,z,z,z,z,z,z] rfl rfl (any_of HT_.out (by kernel_rfl)) (fun _ _ _ h => h) (Or.inr ⟨by rfl, rfl⟩) ?_ ?_
      rotate_left
      ·simp only [Act.put, List.setIfInBounds_toArray, List.set_cons_zero, List.set_cons_succ, i64_w, i32_w]
       rfl
      refine pure_ (i := 13) (N := some 51) (v := undef) (a' := ?_) #[o,o,o,o,o,o,o,o,o,o,o,o,o,o,z,z,z,z,z,z,z,z,z,z,z] rfl rfl (any_of HT_.out (by kernel_rfl)) (fun _ _ _ h => h) (Or.inr ⟨by rfl, rfl⟩) ?_ ?_
      rotate_left
      ·simp only [Act.put, List.setIfInBounds_toArray, List.set_cons_zero, List.set_cons_succ, i64_w, i32_w]
       rfl
      refine pure_ (i := 14) (N := some 52) (v := undef) (a' := ?_) #[o,o,o,o,o,o,o,o,o,o,o,o,o,o,o,z,z,z,z,z,z,z,z,z,z] rfl rfl (any_of HT_.out (by kernel_rfl)) (fun _ _ _ h => h) (Or.inr ⟨by rfl, rfl⟩) ?_ ?_
      rotate_left
      ·simp only [Act.put, List.setIfInBounds_toArray, List.set_cons_zero, List.set_cons_succ, i64_w, i32_w]
       rfl
      refine pure_ (i := 15) (N := some 53) (v := ?_) (a' := ?_) #[o,o,o,o,o,o,o,o,o,o,o,o,o,o,o,o,z,z,z,z,z,z,z,z,z] rfl rfl (any_of HT_.out (by kernel_rfl)) (fun _ _ _ h => h) (Or.inl ⟨by rfl, ?_⟩) ?_ ?_
      rotate_left
      ·intro w'
       go_simp
       with_reducible rfl
      rotate_left
      ·simp only [Act.put, List.setIfInBounds_toArray, List.set_cons_zero, List.set_cons_succ, i64_w, i32_w]
       rfl
      refine pure_ (i := 16) (N := some 54) (v := ?_) (a' := ?_) #[o,o,o,o,o,o,o,o,o,o,o,o,o,o,o,o,o,z,z,z,z,z,z,z,z] rfl rfl (any_of HT_.out (by kernel_rfl)) (fun _ _ _ h => h) (Or.inl ⟨by rfl, ?_⟩) ?_ ?_
      rotate_left
      ·intro w'
       go_simp
       with_reducible rfl
      rotate_left
      ·simp only [Act.put, List.setIfInBounds_toArray, List.set_cons_zero, List.set_cons_succ, i64_w, i32_w]
       rfl
      refine pure_ (i := 17) (N := some 55) (v := undef) (a' := ?_) #[o,o,o,o,o,o,o,o,o,o,o,o,o,o,o,o,o,o,z,z,z,z,z,z,z] rfl rfl (any_of HT_.out (by kernel_rfl)) (fun _ _ _ h => h) (Or.inr ⟨by rfl, rfl⟩) ?_ ?_
      rotate_left
      ·simp only [Act.put, List.setIfInBounds_toArray, List.set_cons_zero, List.set_cons_succ, i64_w, i32_w]
       rfl
      refine pure_ (i := 18) (N := some 56) (v := undef) (a' := ?_) #[o,o,o,o,o,o,o,o,o,o,o,o,o,o,o,o,o,o,o,z,z,z,z,z,z] rfl rfl (any_of HT_.out (by kernel_rfl)) (fun _ _ _ h => h) (Or.inr ⟨by rfl, rfl⟩) ?_ ?_
      rotate_left
      ·simp only [Act.put, List.setIfInBounds_toArray, List.set_cons_zero, List.set_cons_succ, i64_w, i32_w]
       rfl
      refine pure_ (i := 19) (N := some 57) (v := undef) (a' := ?_) #[o,o,o,o,o,o,o,o,o,o,o,o,o,o,o,o,o,o,o,o,z,z,z,z,z] rfl rfl (any_of HT_.out (by kernel_rfl)) (fun _ _ _ h => h) (Or.inr ⟨by rfl, rfl⟩) ?_ ?_
      rotate_left
      ·simp only [Act.put, List.setIfInBounds_toArray, List.set_cons_zero, List.set_cons_succ, i64_w, i32_w]
       rfl
      refine pure_ (i := 20) (N := some 58) (v := undef) (a' := ?_) #[o,o,o,o,o,o,o,o,o,o,o,o,o,o,o,o,o,o,o,o,o,z,z,z,z] rfl rfl (any_of HT_.out (by kernel_rfl)) (fun _ _ _ h => h) (Or.inr ⟨by rfl, rfl⟩) ?_ ?_
      rotate_left
      ·simp only [Act.put, List.setIfInBounds_toArray, List.set_cons_zero, List.set_cons_succ, i64_w, i32_w]
       rfl
      refine pure_ (i := 21) (N := some 59) (v := undef) (a' := ?_) #[o,o,o,o,o,o,o,o,o,o,o,o,o,o,o,o,o,o,o,o,o,o,z,z,z] rfl rfl (any_of HT_.out (by kernel_rfl)) (fun _ _ _ h => h) (Or.inr ⟨by rfl, rfl⟩) ?_ ?_
      rotate_left
      ·simp only [Act.put, List.setIfInBounds_toArray, List.set_cons_zero, List.set_cons_succ, i64_w, i32_w]
       rfl
      refine pure_ (i := 22) (N := some 60) (v := undef) (a' := ?_) #[o,o,o,o,o,o,o,o,o,o,o,o,o,o,o,o,o,o,o,o,o,o,o,z,z] rfl rfl (any_of HT_.out (by kernel_rfl)) (fun _ _ _ h => h) (Or.inr ⟨by rfl, rfl⟩) ?_ ?_
      rotate_left
      ·simp only [Act.put, List.setIfInBounds_toArray, List.set_cons_zero, List.set_cons_succ, i64_w, i32_w]
       rfl
      refine pure_ (i := 23) (N := some 61) (v := undef) (a' := ?_) #[o,o,o,o,o,o,o,o,o,o,o,o,o,o,o,o,o,o,o,o,o,o,o,o,z] rfl rfl (any_of HT_.out (by kernel_rfl)) (fun _ _ _ h => h) (Or.inr ⟨by rfl, rfl⟩) ?_ ?_
      rotate_left
      ·simp only [Act.put, List.setIfInBounds_toArray, List.set_cons_zero, List.set_cons_succ, i64_w, i32_w]
       rfl
      refine pure_ (i := 24) (N := some 62) (v := ?_) (a' := ?_) #[o,o,o,o,o,o,o,o,o,o,o,o,o,o,o,o,o,o,o,o,o,o,o,o,o] rfl rfl (any_of HT_.out (by kernel_rfl)) (fun _ _ _ h => h) (Or.inl ⟨by rfl, ?_⟩) ?_ ?_
      rotate_left
      ·intro w'
       go_simp
       with_reducible rfl
      rotate_left
      ·simp only [Act.put, List.setIfInBounds_toArray, List.set_cons_zero, List.set_cons_succ, i64_w, i32_w]
       rfl
      refine done_ (done_of HT_.out (by kernel_rfl)) ?_
      try go_wp2
      go_meet
      case rel => exact ⟨_, (true), (by first | rfl | (simp; done) | (simp [*]; done)), H', ⟨by first | omega | exact Nat.le_refl _⟩, ⟨by (with_reducible repeat (first | apply Kd.R_alloc | apply Kd.R_drewN | apply Kd.R_drew)); exact HO336.out⟩, ⟨by (with_reducible repeat (first | apply Kd.R_alloc | apply Kd.R_drewN | apply Kd.R_drew)); exact HO346.out⟩, ⟨bB BK340.out⟩, ⟨bB BK347.out⟩, ⟨sB HB.out⟩⟩
     ·rw [if_neg c28] at H
      have c28b0 : (t351.toList == ([] : List UInt8)) = false := beq_eq_false_iff_ne.mpr c28
      have c28b1 : (t351.toList != ([] : List UInt8)) = true := bne_iff_ne.mpr c28
      (first | rw [c28b0] | (simp only [i64_w, i32_w]; rw [c28b0]) | skip)
      by_cases c30 : (t344.length : Int) < 1
      ·rw [if_pos c30] at H
       have c30b0 : decide ((t344.length : Int) < 1) = true := decide_eq_true c30
       have c30b1 : decide (t344.length < 1) = true := decide_eq_true (by omega)
       clear c30
       have H' := Aside0.mk H
       clear H
       try go_wp2
       replace HO336 := am (Kd.R_drew HO336.out)
       replace HO346 := am (Kd.R_drew HO346.out)
       replace BK340 := am (blk_drew BK340.out)
       replace BK347 := am (blk_drew BK347.out)
       replace HB := am (below_drew1 HB.out)
       refine start_ (n := 25) (S := fun w' => w'.cell? ⟨gb347, 0, none⟩ = some (.int .i64 t341) ∧ w'.cell? ⟨gb347, 1, none⟩ = some (.int .i64 t342) ∧ w'.cell? ⟨gb347, 2, none⟩ = some (.int .i64 t343) ∧ w'.cell? ⟨gb347, 3, none⟩ = some (.slice Ao20 t344.length co20)) (ds := []) #[z,z,z,z,z,z,z,z,z,z,z,z,z,z,z,z,z,z,z,z,z,z,z,z,z] (by kernel_rfl) rfl rfl ⟨(blk_cell BK347.out 0).trans rfl, (blk_cell BK347.out 1).trans rfl, (blk_cell BK347.out 2).trans rfl, (blk_cell BK347.out 3).trans rfl⟩ (fun hHeld => ?_); refine with_tabW laws_FnFollowed.tab9 laws_FnFollowed.bits9 (fun HT_ HW_ => ?_)
       generalize w26.drew = w31 at HO336 HO346 BK340 BK347 HB hHeld ⊢
       refine pure_ (i := 0) (N := some 38) (v := ?_) (a' := ?_) #[o,z,z,z,z,z,z,z,z,z,z,z,z,z,z,z,z,z,z,z,z,z,z,z,z] rfl rfl (any_of HT_.out (by kernel_rfl)) (fun _ _ _ h => h) (Or.inl ⟨by rfl, ?_⟩) ?_ ?_
       rotate_left
       ·intro w'
        go_simp
        with_reducible rfl
       rotate_left
       ·simp only [Act.put, List.setIfInBounds_toArray, List.set_cons_zero, List.set_cons_succ, i64_w, i32_w]
        rfl
       refine take_ (i := 1) (N := some 39) (v := ?_) (a' := ?_) #[o,o,z,z,z,z,z,z,z,z,z,z,z,z,z,z,z,z,z,z,z,z,z,z,z] rfl rfl (take_ofW HT_.out HW_.out (by kernel_rfl)) (fun _ _ _ h => h) (Or.inl ⟨by rfl, ?_⟩) hHeld ?_ ?_
       rotate_left
       ·rintro w' ⟨s0, s1, s2, s3⟩
        go_simp
        with_reducible rfl
       rotate_left
       ·simp only [Act.put, List.setIfInBounds_toArray, List.set_cons_zero, List.set_cons_succ, i64_w, i32_w]
        rfl
       refine one_ (i := 2) (N := some 40) #[o,o,o,z,z,z,z,z,z,z,z,z,z,z,z,z,z,z,z,z,z,z,z,z,z] rfl rfl (one_of HT_.out (by kernel_rfl)) (by decide) (fun K hK => ?_)
       refine goes_ Try.func81 (by kernel_rfl) rfl #[.int .i64 t341] (by rfl) rfl rfl (by (try simp only [List.map_toArray, List.map_cons, List.map_nil]); first | done | rfl | (simp only [List.length_drop, List.length_take]; rfl)) ?_
       with_reducible refine (impl_OutcomeName.calls t341 t351 _ A27.out).mono ?_
       rintro e w' ⟨rfl, ⟨nd, rfl⟩⟩
       refine ⟨_, rfl, ?_⟩
       refine hK.out _ _ ⟨(blk_cell BK347.out 0).trans rfl, (blk_cell BK347.out 1).trans rfl, (blk_cell BK347.out 2).trans rfl, (blk_cell BK347.out 3).trans rfl⟩ (fun hHeld => ?_)
       clear hK K
       refine norm_ (a' := ?_) ?_ ?_
       rotate_left
       ·show Act.put _ (some 40) _ = _
        simp only [Act.put, List.setIfInBounds_toArray, List.set_cons_zero, List.set_cons_succ, i64_w, i32_w]
        rfl
       refine pure_ (i := 3) (N := some 41) (v := ?_) (a' := ?_) #[o,o,o,o,z,z,z,z,z,z,z,z,z,z,z,z,z,z,z,z,z,z,z,z,z] rfl rfl (any_of HT_.out (by kernel_rfl)) (fun _ _ _ h => h) (Or.inl ⟨by rfl, ?_⟩) ?_ ?_
       rotate_left
       ·intro w'
        go_simp
        with_reducible rfl
       rotate_left
       ·simp only [Act.put, List.setIfInBounds_toArray, List.set_cons_zero, List.set_cons_succ, i64_w, i32_w]
        rfl
       refine pure_ (i := 4) (N := some 42) (v := ?_) (a' := ?_) #[o,o,o,o,o,z,z,z,z,z,z,z,z,z,z,z,z,z,z,z,z,z,z,z,z] rfl rfl (any_of HT_.out (by kernel_rfl)) (fun _ _ _ h => h) (Or.inl ⟨by rfl, ?_⟩) ?_ ?_
       rotate_left
       ·intro w'
        go_simp
        with_reducible rfl
       rotate_left
       ·simp only [Act.put, List.setIfInBounds_toArray, List.set_cons_zero, List.set_cons_succ, i64_w, i32_w]
        rfl
       refine pure_ (i := 5) (N := some 43) (v := ?_) (a' := ?_) #[o,o,o,o,o,o,z,z,z,z,z,z,z,z,z,z,z,z,z,z,z,z,z,z,z] rfl rfl (any_of HT_.out (by kernel_rfl)) (fun _ _ _ h => h) (Or.inl ⟨by rfl, ?_⟩) ?_ ?_
       rotate_left
       ·intro w'
        go_simp
        with_reducible rfl
       rotate_left
       ·simp only [Act.put, List.setIfInBounds_toArray, List.set_cons_zero, List.set_cons_succ, i64_w, i32_w]
        rfl
       refine take_ (i := 6) (N := some 44) (v := ?_) (a' := ?_) #[o,o,o,o,o,o,o,z,z,z,z,z,z,z,z,z,z,z,z,z,z,z,z,z,z] rfl rfl (take_ofW HT_.out HW_.out (by kernel_rfl)) (fun _ _ _ h => h) (Or.inl ⟨by rfl, ?_⟩) hHeld ?_ ?_
       rotate_left
       ·rintro w' ⟨s0, s1, s2, s3⟩
        go_simp
        with_reducible rfl
       rotate_left
       ·simp only [Act.put, List.setIfInBounds_toArray, List.set_cons_zero, List.set_cons_succ, i64_w, i32_w]
        rfl
       refine pure_ (i := 7) (N := some 45) (v := ?_) (a' := ?_) #[o,o,o,o,o,o,o,o,z,z,z,z,z,z,z,z,z,z,z,z,z,z,z,z,z] rfl rfl (any_of HT_.out (by kernel_rfl)) (fun _ _ _ h => h) (Or.inl ⟨by rfl, ?_⟩) ?_ ?_
       rotate_left
       ·intro w'
        go_simp
        with_reducible rfl
       rotate_left
       ·simp only [Act.put, List.setIfInBounds_toArray, List.set_cons_zero, List.set_cons_succ, i64_w, i32_w]
        rfl
       refine pure_ (i := 8) (N := some 46) (v := ?_) (a' := ?_) #[o,o,o,o,o,o,o,o,o,z,z,z,z,z,z,z,z,z,z,z,z,z,z,z,z] rfl rfl (any_of HT_.out (by kernel_rfl)) (fun _ _ _ h => h) (Or.inl ⟨by rfl, ?_⟩) ?_ ?_
       rotate_left
       ·intro w'
        go_simp
        with_reducible rfl
       rotate_left
       ·simp only [Act.put, List.setIfInBounds_toArray, List.set_cons_zero, List.set_cons_succ, i64_w, i32_w]
        rfl
       refine pure_ (i := 9) (N := some 47) (v := ?_) (a' := ?_) #[o,o,o,o,o,o,o,o,o,o,z,z,z,z,z,z,z,z,z,z,z,z,z,z,z] rfl rfl (any_of HT_.out (by kernel_rfl)) (fun _ _ _ h => h) (Or.inl ⟨by rfl, ?_⟩) ?_ ?_
       rotate_left
       ·intro w'
        go_simp
        with_reducible rfl
       rotate_left
       ·simp only [Act.put, List.setIfInBounds_toArray, List.set_cons_zero, List.set_cons_succ, i64_w, i32_w]
        rfl
       refine pure_ (i := 10) (N := some 48) (v := ?_) (a' := ?_) #[o,o,o,o,o,o,o,o,o,o,o,z,z,z,z,z,z,z,z,z,z,z,z,z,z] rfl rfl (any_of HT_.out (by kernel_rfl)) (fun _ _ _ h => h) (Or.inl ⟨by rfl, ?_⟩) ?_ ?_
       rotate_left
       ·intro w'
        go_simp
        with_reducible rfl
       rotate_left
       ·simp only [Act.put, List.setIfInBounds_toArray, List.set_cons_zero, List.set_cons_succ, i64_w, i32_w]
        rfl
       refine pure_ (i := 11) (N := some 49) (v := undef) (a' := ?_) #[o,o,o,o,o,o,o,o,o,o,o,o,z,z,z,z,z,z,z,z,z,z,z,z,z] rfl rfl (any_of HT_.out (by kernel_rfl)) (fun _ _ _ h => h) (Or.inr ⟨by rfl, rfl⟩) ?_ ?_
       rotate_left
       ·simp only [Act.put, List.setIfInBounds_toArray, List.set_cons_zero, List.set_cons_succ, i64_w, i32_w]
        rfl
       refine pure_ (i := 12) (N := some 50) (v := undef) (a' := ?_) #[o,o,o,o,o,o,o,o,o,o,o,o,o,z,z,z,z,z,z,z,z,z,z,z,z] rfl rfl (any_of HT_.out (by kernel_rfl)) (fun _ _ _ h => h) (Or.inr ⟨by rfl, rfl⟩) ?_ ?_
       rotate_left
       ·simp only [Act.put, List.setIfInBounds_toArray, List.set_cons_zero, List.set_cons_succ, i64_w, i32_w]
        rfl
       refine pure_ (i := 13) (N := some 51) (v := undef) (a' := ?_) #[o,o,o,o,o,o,o,o,o,o,o,o,o,o,z,z,z,z,z,z,z,z,z,z,z] rfl rfl (any_of HT_.out (by kernel_rfl)) (fun _ _ _ h => h) (Or.inr ⟨by rfl, rfl⟩) ?_ ?_
       rotate_left
       ·simp only [Act.put, List.setIfInBounds_toArray, List.set_cons_zero, List.set_cons_succ, i64_w, i32_w]
        rfl
       refine pure_ (i := 14) (N := some 52) (v := undef) (a' := ?_) #[o,o,o,o,o,o,o,o,o,o,o,o,o,o,o,z,z,z,z,z,z,z,z,z,z] rfl rfl (any_of HT_.out (by kernel_rfl)) (fun _ _ _ h => h) (Or.inr ⟨by rfl, rfl⟩) ?_ ?_
       rotate_left
       ·simp only [Act.put, List.setIfInBounds_toArray, List.set_cons_zero, List.set_cons_succ, i64_w, i32_w]
        rfl
       refine pure_ (i := 15) (N := some 53) (v := ?_) (a' := ?_) #[o,o,o,o,o,o,o,o,o,o,o,o,o,o,o,o,z,z,z,z,z,z,z,z,z] rfl rfl (any_of HT_.out (by kernel_rfl)) (fun _ _ _ h => h) (Or.inl ⟨by rfl, ?_⟩) ?_ ?_
       rotate_left
       ·intro w'
        go_simp
        with_reducible rfl
       rotate_left
       ·simp only [Act.put, List.setIfInBounds_toArray, List.set_cons_zero, List.set_cons_succ, i64_w, i32_w]
        rfl
       refine pure_ (i := 16) (N := some 54) (v := ?_) (a' := ?_) #[o,o,o,o,o,o,o,o,o,o,o,o,o,o,o,o,o,z,z,z,z,z,z,z,z] rfl rfl (any_of HT_.out (by kernel_rfl)) (fun _ _ _ h => h) (Or.inl ⟨by rfl, ?_⟩) ?_ ?_
       rotate_left
       ·intro w'
        go_simp
        with_reducible rfl
       rotate_left
       ·simp only [Act.put, List.setIfInBounds_toArray, List.set_cons_zero, List.set_cons_succ, i64_w, i32_w]
        rfl
       refine pure_ (i := 17) (N := some 55) (v := undef) (a' := ?_) #[o,o,o,o,o,o,o,o,o,o,o,o,o,o,o,o,o,o,z,z,z,z,z,z,z] rfl rfl (any_of HT_.out (by kernel_rfl)) (fun _ _ _ h => h) (Or.inr ⟨by rfl, rfl⟩) ?_ ?_
       rotate_left
       ·simp only [Act.put, List.setIfInBounds_toArray, List.set_cons_zero, List.set_cons_succ, i64_w, i32_w]
        rfl
       refine pure_ (i := 18) (N := some 56) (v := undef) (a' := ?_) #[o,o,o,o,o,o,o,o,o,o,o,o,o,o,o,o,o,o,o,z,z,z,z,z,z] rfl rfl (any_of HT_.out (by kernel_rfl)) (fun _ _ _ h => h) (Or.inr ⟨by rfl, rfl⟩) ?_ ?_
       rotate_left
       ·simp only [Act.put, List.setIfInBounds_toArray, List.set_cons_zero, List.set_cons_succ, i64_w, i32_w]
        rfl
       refine pure_ (i := 19) (N := some 57) (v := undef) (a' := ?_) #[o,o,o,o,o,o,o,o,o,o,o,o,o,o,o,o,o,o,o,o,z,z,z,z,z] rfl rfl (any_of HT_.out (by kernel_rfl)) (fun _ _ _ h => h) (Or.inr ⟨by rfl, rfl⟩) ?_ ?_
       rotate_left
       ·simp only [Act.put, List.setIfInBounds_toArray, List.set_cons_zero, List.set_cons_succ, i64_w, i32_w]
        rfl
       refine pure_ (i := 20) (N := some 58) (v := undef) (a' := ?_) #[o,o,o,o,o,o,o,o,o,o,o,o,o,o,o,o,o,o,o,o,o,z,z,z,z] rfl rfl (any_of HT_.out (by kernel_rfl)) (fun _ _ _ h => h) (Or.inr ⟨by rfl, rfl⟩) ?_ ?_
       rotate_left
       ·simp only [Act.put, List.setIfInBounds_toArray, List.set_cons_zero, List.set_cons_succ, i64_w, i32_w]
        rfl
       refine pure_ (i := 21) (N := some 59) (v := undef) (a' := ?_) #[o,o,o,o,o,o,o,o,o,o,o,o,o,o,o,o,o,o,o,o,o,o,z,z,z] rfl rfl (any_of HT_.out (by kernel_rfl)) (fun _ _ _ h => h) (Or.inr ⟨by rfl, rfl⟩) ?_ ?_
       rotate_left
       ·simp only [Act.put, List.setIfInBounds_toArray, List.set_cons_zero, List.set_cons_succ, i64_w, i32_w]
        rfl
       refine pure_ (i := 22) (N := some 60) (v := undef) (a' := ?_) #[o,o,o,o,o,o,o,o,o,o,o,o,o,o,o,o,o,o,o,o,o,o,o,z,z] rfl rfl (any_of HT_.out (by kernel_rfl)) (fun _ _ _ h => h) (Or.inr ⟨by rfl, rfl⟩) ?_ ?_
       rotate_left
       ·simp only [Act.put, List.setIfInBounds_toArray, List.set_cons_zero, List.set_cons_succ, i64_w, i32_w]
        rfl
       refine pure_ (i := 23) (N := some 61) (v := undef) (a' := ?_) #[o,o,o,o,o,o,o,o,o,o,o,o,o,o,o,o,o,o,o,o,o,o,o,o,z] rfl rfl (any_of HT_.out (by kernel_rfl)) (fun _ _ _ h => h) (Or.inr ⟨by rfl, rfl⟩) ?_ ?_
       rotate_left
       ·simp only [Act.put, List.setIfInBounds_toArray, List.set_cons_zero, List.set_cons_succ, i64_w, i32_w]
        rfl
       refine pure_ (i := 24) (N := some 62) (v := ?_) (a' := ?_) #[o,o,o,o,o,o,o,o,o,o,o,o,o,o,o,o,o,o,o,o,o,o,o,o,o] rfl rfl (any_of HT_.out (by kernel_rfl)) (fun _ _ _ h => h) (Or.inl ⟨by rfl, ?_⟩) ?_ ?_
       rotate_left
       ·intro w'
        go_simp
        with_reducible rfl
       rotate_left
       ·simp only [Act.put, List.setIfInBounds_toArray, List.set_cons_zero, List.set_cons_succ, i64_w, i32_w]
        rfl
       refine done_ (done_of HT_.out (by kernel_rfl)) ?_
       try go_wp2
       go_meet
       case rel => exact ⟨_, (true), (by first | rfl | (simp; done) | (simp [*]; done)), H', ⟨by first | omega | exact Nat.le_refl _⟩, ⟨by (with_reducible repeat (first | apply Kd.R_alloc | apply Kd.R_drewN | apply Kd.R_drew)); exact HO336.out⟩, ⟨by (with_reducible repeat (first | apply Kd.R_alloc | apply Kd.R_drewN | apply Kd.R_drew)); exact HO346.out⟩, ⟨bB BK340.out⟩, ⟨bB BK347.out⟩, ⟨sB HB.out⟩⟩
      ·rw [if_neg c30] at H
       have c30b0 : decide ((t344.length : Int) < 1) = false := decide_eq_false c30
       have c30b1 : decide (t344.length < 1) = false := decide_eq_false (by omega)
       clear c30
       by_cases c32 : (t344.length : Int) > 6
       ·rw [if_pos c32] at H
        have c32b0 : decide (6 < (t344.length : Int)) = true := decide_eq_true c32
        have c32b1 : decide (6 < t344.length) = true := decide_eq_true (by omega)
        clear c32
        have H' := Aside0.mk H
        clear H
        try go_wp2
        replace HO336 := am (Kd.R_drew HO336.out)
        replace HO346 := am (Kd.R_drew HO346.out)
        replace BK340 := am (blk_drew BK340.out)
        replace BK347 := am (blk_drew BK347.out)
        replace HB := am (below_drew1 HB.out)
        refine start_ (n := 25) (S := fun w' => w'.cell? ⟨gb347, 0, none⟩ = some (.int .i64 t341) ∧ w'.cell? ⟨gb347, 1, none⟩ = some (.int .i64 t342) ∧ w'.cell? ⟨gb347, 2, none⟩ = some (.int .i64 t343) ∧ w'.cell? ⟨gb347, 3, none⟩ = some (.slice Ao20 t344.length co20)) (ds := []) #[z,z,z,z,z,z,z,z,z,z,z,z,z,z,z,z,z,z,z,z,z,z,z,z,z] (by kernel_rfl) rfl rfl ⟨(blk_cell BK347.out 0).trans rfl, (blk_cell BK347.out 1).trans rfl, (blk_cell BK347.out 2).trans rfl, (blk_cell BK347.out 3).trans rfl⟩ (fun hHeld => ?_); refine with_tabW laws_FnFollowed.tab9 laws_FnFollowed.bits9 (fun HT_ HW_ => ?_)
        generalize w26.drew = w33 at HO336 HO346 BK340 BK347 HB hHeld ⊢
        refine pure_ (i := 0) (N := some 38) (v := ?_) (a' := ?_) #[o,z,z,z,z,z,z,z,z,z,z,z,z,z,z,z,z,z,z,z,z,z,z,z,z] rfl rfl (any_of HT_.out (by kernel_rfl)) (fun _ _ _ h => h) (Or.inl ⟨by rfl, ?_⟩) ?_ ?_
        rotate_left
        ·intro w'
         go_simp
         with_reducible rfl
        rotate_left
        ·simp only [Act.put, List.setIfInBounds_toArray, List.set_cons_zero, List.set_cons_succ, i64_w, i32_w]
         rfl
        refine take_ (i := 1) (N := some 39) (v := ?_) (a' := ?_) #[o,o,z,z,z,z,z,z,z,z,z,z,z,z,z,z,z,z,z,z,z,z,z,z,z] rfl rfl (take_ofW HT_.out HW_.out (by kernel_rfl)) (fun _ _ _ h => h) (Or.inl ⟨by rfl, ?_⟩) hHeld ?_ ?_
        rotate_left
        ·rintro w' ⟨s0, s1, s2, s3⟩
         go_simp
         with_reducible rfl
        rotate_left
        ·simp only [Act.put, List.setIfInBounds_toArray, List.set_cons_zero, List.set_cons_succ, i64_w, i32_w]
         rfl
        refine one_ (i := 2) (N := some 40) #[o,o,o,z,z,z,z,z,z,z,z,z,z,z,z,z,z,z,z,z,z,z,z,z,z] rfl rfl (one_of HT_.out (by kernel_rfl)) (by decide) (fun K hK => ?_)
        refine goes_ Try.func81 (by kernel_rfl) rfl #[.int .i64 t341] (by rfl) rfl rfl (by (try simp only [List.map_toArray, List.map_cons, List.map_nil]); first | done | rfl | (simp only [List.length_drop, List.length_take]; rfl)) ?_
        with_reducible refine (impl_OutcomeName.calls t341 t351 _ A27.out).mono ?_
        rintro e w' ⟨rfl, ⟨nd, rfl⟩⟩
        refine ⟨_, rfl, ?_⟩
        refine hK.out _ _ ⟨(blk_cell BK347.out 0).trans rfl, (blk_cell BK347.out 1).trans rfl, (blk_cell BK347.out 2).trans rfl, (blk_cell BK347.out 3).trans rfl⟩ (fun hHeld => ?_)
        clear hK K
        refine norm_ (a' := ?_) ?_ ?_
        rotate_left
        ·show Act.put _ (some 40) _ = _
         simp only [Act.put, List.setIfInBounds_toArray, List.set_cons_zero, List.set_cons_succ, i64_w, i32_w]
         rfl
        refine pure_ (i := 3) (N := some 41) (v := ?_) (a' := ?_) #[o,o,o,o,z,z,z,z,z,z,z,z,z,z,z,z,z,z,z,z,z,z,z,z,z] rfl rfl (any_of HT_.out (by kernel_rfl)) (fun _ _ _ h => h) (Or.inl ⟨by rfl, ?_⟩) ?_ ?_
        rotate_left
        ·intro w'
         go_simp
         with_reducible rfl
        rotate_left
        ·simp only [Act.put, List.setIfInBounds_toArray, List.set_cons_zero, List.set_cons_succ, i64_w, i32_w]
         rfl
        refine pure_ (i := 4) (N := some 42) (v := ?_) (a' := ?_) #[o,o,o,o,o,z,z,z,z,z,z,z,z,z,z,z,z,z,z,z,z,z,z,z,z] rfl rfl (any_of HT_.out (by kernel_rfl)) (fun _ _ _ h => h) (Or.inl ⟨by rfl, ?_⟩) ?_ ?_
        rotate_left
        ·intro w'
         go_simp
         with_reducible rfl
        rotate_left
        ·simp only [Act.put, List.setIfInBounds_toArray, List.set_cons_zero, List.set_cons_succ, i64_w, i32_w]
         rfl
        refine pure_ (i := 5) (N := some 43) (v := ?_) (a' := ?_) #[o,o,o,o,o,o,z,z,z,z,z,z,z,z,z,z,z,z,z,z,z,z,z,z,z] rfl rfl (any_of HT_.out (by kernel_rfl)) (fun _ _ _ h => h) (Or.inl ⟨by rfl, ?_⟩) ?_ ?_
        rotate_left
        ·intro w'
         go_simp
         with_reducible rfl
        rotate_left
        ·simp only [Act.put, List.setIfInBounds_toArray, List.set_cons_zero, List.set_cons_succ, i64_w, i32_w]
         rfl
        refine take_ (i := 6) (N := some 44) (v := ?_) (a' := ?_) #[o,o,o,o,o,o,o,z,z,z,z,z,z,z,z,z,z,z,z,z,z,z,z,z,z] rfl rfl (take_ofW HT_.out HW_.out (by kernel_rfl)) (fun _ _ _ h => h) (Or.inl ⟨by rfl, ?_⟩) hHeld ?_ ?_
        rotate_left
        ·rintro w' ⟨s0, s1, s2, s3⟩
         go_simp
         with_reducible rfl
        rotate_left
        ·simp only [Act.put, List.setIfInBounds_toArray, List.set_cons_zero, List.set_cons_succ, i64_w, i32_w]
         rfl
        refine pure_ (i := 7) (N := some 45) (v := ?_) (a' := ?_) #[o,o,o,o,o,o,o,o,z,z,z,z,z,z,z,z,z,z,z,z,z,z,z,z,z] rfl rfl (any_of HT_.out (by kernel_rfl)) (fun _ _ _ h => h) (Or.inl ⟨by rfl, ?_⟩) ?_ ?_
        rotate_left
        ·intro w'
         go_simp
         with_reducible rfl
        rotate_left
        ·simp only [Act.put, List.setIfInBounds_toArray, List.set_cons_zero, List.set_cons_succ, i64_w, i32_w]
         rfl
        refine pure_ (i := 8) (N := some 46) (v := ?_) (a' := ?_) #[o,o,o,o,o,o,o,o,o,z,z,z,z,z,z,z,z,z,z,z,z,z,z,z,z] rfl rfl (any_of HT_.out (by kernel_rfl)) (fun _ _ _ h => h) (Or.inl ⟨by rfl, ?_⟩) ?_ ?_
        rotate_left
        ·intro w'
         go_simp
         with_reducible rfl
        rotate_left
        ·simp only [Act.put, List.setIfInBounds_toArray, List.set_cons_zero, List.set_cons_succ, i64_w, i32_w]
         rfl
        refine pure_ (i := 9) (N := some 47) (v := ?_) (a' := ?_) #[o,o,o,o,o,o,o,o,o,o,z,z,z,z,z,z,z,z,z,z,z,z,z,z,z] rfl rfl (any_of HT_.out (by kernel_rfl)) (fun _ _ _ h => h) (Or.inl ⟨by rfl, ?_⟩) ?_ ?_
        rotate_left
        ·intro w'
         go_simp
         with_reducible rfl
        rotate_left
        ·simp only [Act.put, List.setIfInBounds_toArray, List.set_cons_zero, List.set_cons_succ, i64_w, i32_w]
         rfl
        refine pure_ (i := 10) (N := some 48) (v := ?_) (a' := ?_) #[o,o,o,o,o,o,o,o,o,o,o,z,z,z,z,z,z,z,z,z,z,z,z,z,z] rfl rfl (any_of HT_.out (by kernel_rfl)) (fun _ _ _ h => h) (Or.inl ⟨by rfl, ?_⟩) ?_ ?_
        rotate_left
        ·intro w'
         go_simp
         with_reducible rfl
        rotate_left
        ·simp only [Act.put, List.setIfInBounds_toArray, List.set_cons_zero, List.set_cons_succ, i64_w, i32_w]
         rfl
        refine pure_ (i := 11) (N := some 49) (v := ?_) (a' := ?_) #[o,o,o,o,o,o,o,o,o,o,o,o,z,z,z,z,z,z,z,z,z,z,z,z,z] rfl rfl (any_of HT_.out (by kernel_rfl)) (fun _ _ _ h => h) (Or.inl ⟨by rfl, ?_⟩) ?_ ?_
        rotate_left
        ·intro w'
         go_simp
         with_reducible rfl
        rotate_left
        ·simp only [Act.put, List.setIfInBounds_toArray, List.set_cons_zero, List.set_cons_succ, i64_w, i32_w]
         rfl
        refine take_ (i := 12) (N := some 50) (v := ?_) (a' := ?_) #[o,o,o,o,o,o,o,o,o,o,o,o,o,z,z,z,z,z,z,z,z,z,z,z,z] rfl rfl (take_ofW HT_.out HW_.out (by kernel_rfl)) (fun _ _ _ h => h) (Or.inl ⟨by rfl, ?_⟩) hHeld ?_ ?_
        rotate_left
        ·rintro w' ⟨s0, s1, s2, s3⟩
         go_simp
         with_reducible rfl
        rotate_left
        ·simp only [Act.put, List.setIfInBounds_toArray, List.set_cons_zero, List.set_cons_succ, i64_w, i32_w]
         rfl
        refine pure_ (i := 13) (N := some 51) (v := ?_) (a' := ?_) #[o,o,o,o,o,o,o,o,o,o,o,o,o,o,z,z,z,z,z,z,z,z,z,z,z] rfl rfl (any_of HT_.out (by kernel_rfl)) (fun _ _ _ h => h) (Or.inl ⟨by rfl, ?_⟩) ?_ ?_
        rotate_left
        ·intro w'
         go_simp
         with_reducible rfl
        rotate_left
        ·simp only [Act.put, List.setIfInBounds_toArray, List.set_cons_zero, List.set_cons_succ, i64_w, i32_w]
         rfl
        refine pure_ (i := 14) (N := some 52) (v := ?_) (a' := ?_) #[o,o,o,o,o,o,o,o,o,o,o,o,o,o,o,z,z,z,z,z,z,z,z,z,z] rfl rfl (any_of HT_.out (by kernel_rfl)) (fun _ _ _ h => h) (Or.inl ⟨by rfl, ?_⟩) ?_ ?_
        rotate_left
        ·intro w'
         go_simp
         with_reducible rfl
        rotate_left
        ·simp only [Act.put, List.setIfInBounds_toArray, List.set_cons_zero, List.set_cons_succ, i64_w, i32_w]
         rfl
        refine pure_ (i := 15) (N := some 53) (v := ?_) (a' := ?_) #[o,o,o,o,o,o,o,o,o,o,o,o,o,o,o,o,z,z,z,z,z,z,z,z,z] rfl rfl (any_of HT_.out (by kernel_rfl)) (fun _ _ _ h => h) (Or.inl ⟨by rfl, ?_⟩) ?_ ?_
        rotate_left
        ·intro w'
         go_simp
         with_reducible rfl
        rotate_left
        ·simp only [Act.put, List.setIfInBounds_toArray, List.set_cons_zero, List.set_cons_succ, i64_w, i32_w]
         rfl
        refine pure_ (i := 16) (N := some 54) (v := ?_) (a' := ?_) #[o,o,o,o,o,o,o,o,o,o,o,o,o,o,o,o,o,z,z,z,z,z,z,z,z] rfl rfl (any_of HT_.out (by kernel_rfl)) (fun _ _ _ h => h) (Or.inl ⟨by rfl, ?_⟩) ?_ ?_
        rotate_left
        ·intro w'
         go_simp
         with_reducible rfl
        rotate_left
        ·simp only [Act.put, List.setIfInBounds_toArray, List.set_cons_zero, List.set_cons_succ, i64_w, i32_w]
         rfl
        refine pure_ (i := 17) (N := some 55) (v := undef) (a' := ?_) #[o,o,o,o,o,o,o,o,o,o,o,o,o,o,o,o,o,o,z,z,z,z,z,z,z] rfl rfl (any_of HT_.out (by kernel_rfl)) (fun _ _ _ h => h) (Or.inr ⟨by rfl, rfl⟩) ?_ ?_
        rotate_left
        ·simp only [Act.put, List.setIfInBounds_toArray, List.set_cons_zero, List.set_cons_succ, i64_w, i32_w]
         rfl
        refine pure_ (i := 18) (N := some 56) (v := undef) (a' := ?_) #[o,o,o,o,o,o,o,o,o,o,o,o,o,o,o,o,o,o,o,z,z,z,z,z,z] rfl rfl (any_of HT_.out (by kernel_rfl)) (fun _ _ _ h => h) (Or.inr ⟨by rfl, rfl⟩) ?_ ?_
        rotate_left
        ·simp only [Act.put, List.setIfInBounds_toArray, List.set_cons_zero, List.set_cons_succ, i64_w, i32_w]
         rfl
        refine pure_ (i := 19) (N := some 57) (v := undef) (a' := ?_) #[o,o,o,o,o,o,o,o,o,o,o,o,o,o,o,o,o,o,o,o,z,z,z,z,z] rfl rfl (any_of HT_.out (by kernel_rfl)) (fun _ _ _ h => h) (Or.inr ⟨by rfl, rfl⟩) ?_ ?_
        rotate_left
        ·simp only [Act.put, List.setIfInBounds_toArray, List.set_cons_zero, List.set_cons_succ, i64_w, i32_w]
         rfl
        refine pure_ (i := 20) (N := some 58) (v := undef) (a' := ?_) #[o,o,o,o,o,o,o,o,o,o,o,o,o,o,o,o,o,o,o,o,o,z,z,z,z] rfl rfl (any_of HT_.out (by kernel_rfl)) (fun _ _ _ h => h) (Or.inr ⟨by rfl, rfl⟩) ?_ ?_
        rotate_left
        ·simp only [Act.put, List.setIfInBounds_toArray, List.set_cons_zero, List.set_cons_succ, i64_w, i32_w]
         rfl
        refine pure_ (i := 21) (N := some 59) (v := undef) (a' := ?_) #[o,o,o,o,o,o,o,o,o,o,o,o,o,o,o,o,o,o,o,o,o,o,z,z,z] rfl rfl (any_of HT_.out (by kernel_rfl)) (fun _ _ _ h => h) (Or.inr ⟨by rfl, rfl⟩) ?_ ?_
        rotate_left
        ·simp only [Act.put, List.setIfInBounds_toArray, List.set_cons_zero, List.set_cons_succ, i64_w, i32_w]
         rfl
        refine pure_ (i := 22) (N := some 60) (v := undef) (a' := ?_) #[o,o,o,o,o,o,o,o,o,o,o,o,o,o,o,o,o,o,o,o,o,o,o,z,z] rfl rfl (any_of HT_.out (by kernel_rfl)) (fun _ _ _ h => h) (Or.inr ⟨by rfl, rfl⟩) ?_ ?_
        rotate_left
        ·simp only [Act.put, List.setIfInBounds_toArray, List.set_cons_zero, List.set_cons_succ, i64_w, i32_w]
         rfl
        refine pure_ (i := 23) (N := some 61) (v := undef) (a' := ?_) #[o,o,o,o,o,o,o,o,o,o,o,o,o,o,o,o,o,o,o,o,o,o,o,o,z] rfl rfl (any_of HT_.out (by kernel_rfl)) (fun _ _ _ h => h) (Or.inr ⟨by rfl, rfl⟩) ?_ ?_
        rotate_left
        ·simp only [Act.put, List.setIfInBounds_toArray, List.set_cons_zero, List.set_cons_succ, i64_w, i32_w]
         rfl
        refine pure_ (i := 24) (N := some 62) (v := ?_) (a' := ?_) #[o,o,o,o,o,o,o,o,o,o,o,o,o,o,o,o,o,o,o,o,o,o,o,o,o] rfl rfl (any_of HT_.out (by kernel_rfl)) (fun _ _ _ h => h) (Or.inl ⟨by rfl, ?_⟩) ?_ ?_
        rotate_left
        ·intro w'
         go_simp
         with_reducible rfl
        rotate_left
        ·simp only [Act.put, List.setIfInBounds_toArray, List.set_cons_zero, List.set_cons_succ, i64_w, i32_w]
         rfl
        refine done_ (done_of HT_.out (by kernel_rfl)) ?_
        try go_wp2
        go_meet
        case rel => exact ⟨_, (true), (by first | rfl | (simp; done) | (simp [*]; done)), H', ⟨by first | omega | exact Nat.le_refl _⟩, ⟨by (with_reducible repeat (first | apply Kd.R_alloc | apply Kd.R_drewN | apply Kd.R_drew)); exact HO336.out⟩, ⟨by (with_reducible repeat (first | apply Kd.R_alloc | apply Kd.R_drewN | apply Kd.R_drew)); exact HO346.out⟩, ⟨bB BK340.out⟩, ⟨bB BK347.out⟩, ⟨sB HB.out⟩⟩
       ·rw [if_neg c32] at H
        have c32b0 : decide (6 < (t344.length : Int)) = false := decide_eq_false c32
        have c32b1 : decide (6 < t344.length) = false := decide_eq_false (by omega)
        clear c32
        by_cases c34 : 0 < (t344.length : Int)
        ·rw [if_pos c34] at H
         have c34b0 : decide (0 < (t344.length : Int)) = true := decide_eq_true c34
         have c34b1 : decide (0 < t344.length) = true := decide_eq_true (by omega)
         clear c34
         have H' := Aside0.mk H
         clear H
         try go_wp2
         replace HO336 := am (Kd.R_drew HO336.out)
         replace HO346 := am (Kd.R_drew HO346.out)
         replace BK340 := am (blk_drew BK340.out)
         replace BK347 := am (blk_drew BK347.out)
         replace HB := am (below_drew1 HB.out)
         have p352 : 0 ≤ (0 : Int) := (by omega)
         have q352 : 0 < (t344.length : Int) := of_decide_eq_true (by first | (with_reducible assumption) | assumption)
         obtain ⟨ad352, e352, hx352_0, hx352_1⟩ := at_T33 (Kd.R_reads' HO346.out).2.2 0 p352 q352
         cases e352
         have qi352 : (0 < t344.length) = True := eq_true (by omega)
         (try rw [show ((0 : Int)).toNat = 0 from rfl] at hx352_0)
         (try rw [show 0 * 2 = 0 from rfl] at hx352_0)
         (try rw [Addr.add_zero'] at hx352_0)
         (try rw [show ((0 : Int)).toNat = 0 from rfl] at hx352_1)
         (try rw [show 0 * 2 = 0 from rfl] at hx352_1)
         (try rw [Addr.add_zero'] at hx352_1)
         replace p352 := eq_true p352
         replace q352 := eq_true q352
         refine start_ (n := 25) (S := fun w' => w'.cell? ⟨gb347, 0, none⟩ = some (.int .i64 t341) ∧ w'.cell? ⟨gb347, 1, none⟩ = some (.int .i64 t342) ∧ w'.cell? ⟨gb347, 2, none⟩ = some (.int .i64 t343) ∧ w'.cell? ⟨gb347, 3, none⟩ = some (.slice (some ad352) t344.length co20) ∧ w'.cell? ⟨gb340, 0, none⟩ = some (.int .i64 t337) ∧ w'.cell? ⟨gb340, 1, none⟩ = some (.int .i64 t338) ∧ w'.cell? ⟨gb340, 2, none⟩ = some (.int .i64 t339) ∧ w'.cell? ad352 = some (.int .i64 ((rd_T33 t344 0).f0)) ∧ w'.cell? ⟨ad352.block, ad352.off + 1, none⟩ = some (.int .i64 ((rd_T33 t344 0).f1))) (ds := []) #[z,z,z,z,z,z,z,z,z,z,z,z,z,z,z,z,z,z,z,z,z,z,z,z,z] (by kernel_rfl) rfl rfl ⟨(blk_cell BK347.out 0).trans rfl, (blk_cell BK347.out 1).trans rfl, (blk_cell BK347.out 2).trans rfl, (blk_cell BK347.out 3).trans rfl, (blk_cell BK340.out 0).trans rfl, (blk_cell BK340.out 1).trans rfl, (blk_cell BK340.out 2).trans rfl, hx352_0, hx352_1⟩ (fun hHeld => ?_); refine with_tabW laws_FnFollowed.tab9 laws_FnFollowed.bits9 (fun HT_ HW_ => ?_)
         generalize w26.drew = w35 at HO336 HO346 BK340 BK347 HB hx352_0 hx352_1 hHeld ⊢
         refine pure_ (i := 0) (N := some 38) (v := ?_) (a' := ?_) #[o,z,z,z,z,z,z,z,z,z,z,z,z,z,z,z,z,z,z,z,z,z,z,z,z] rfl rfl (any_of HT_.out (by kernel_rfl)) (fun _ _ _ h => h) (Or.inl ⟨by rfl, ?_⟩) ?_ ?_
         rotate_left
         ·intro w'
          go_simp
          with_reducible rfl
         rotate_left
         ·simp only [Act.put, List.setIfInBounds_toArray, List.set_cons_zero, List.set_cons_succ, i64_w, i32_w]
          rfl
         refine take_ (i := 1) (N := some 39) (v := ?_) (a' := ?_) #[o,o,z,z,z,z,z,z,z,z,z,z,z,z,z,z,z,z,z,z,z,z,z,z,z] rfl rfl (take_ofW HT_.out HW_.out (by kernel_rfl)) (fun _ _ _ h => h) (Or.inl ⟨by rfl, ?_⟩) hHeld ?_ ?_
         rotate_left
         ·rintro w' ⟨s0, s1, s2, s3, s4, s5, s6, s7, s8⟩
          go_simp
          with_reducible rfl
         rotate_left
         ·simp only [Act.put, List.setIfInBounds_toArray, List.set_cons_zero, List.set_cons_succ, i64_w, i32_w]
          rfl
         refine one_ (i := 2) (N := some 40) #[o,o,o,z,z,z,z,z,z,z,z,z,z,z,z,z,z,z,z,z,z,z,z,z,z] rfl rfl (one_of HT_.out (by kernel_rfl)) (by decide) (fun K hK => ?_)
         refine goes_ Try.func81 (by kernel_rfl) rfl #[.int .i64 t341] (by rfl) rfl rfl (by (try simp only [List.map_toArray, List.map_cons, List.map_nil]); first | done | rfl | (simp only [List.length_drop, List.length_take]; rfl)) ?_
         with_reducible refine (impl_OutcomeName.calls t341 t351 _ A27.out).mono ?_
         rintro e w' ⟨rfl, ⟨nd, rfl⟩⟩
         refine ⟨_, rfl, ?_⟩
         refine hK.out _ _ ⟨(blk_cell BK347.out 0).trans rfl, (blk_cell BK347.out 1).trans rfl, (blk_cell BK347.out 2).trans rfl, (blk_cell BK347.out 3).trans rfl, (blk_cell BK340.out 0).trans rfl, (blk_cell BK340.out 1).trans rfl, (blk_cell BK340.out 2).trans rfl, hHeld.2.2.2.2.2.2.2.1, hHeld.2.2.2.2.2.2.2.2⟩ (fun hHeld => ?_)
         clear hK K
         refine norm_ (a' := ?_) ?_ ?_
         rotate_left
         ·show Act.put _ (some 40) _ = _
          simp only [Act.put, List.setIfInBounds_toArray, List.set_cons_zero, List.set_cons_succ, i64_w, i32_w]
          rfl
         refine pure_ (i := 3) (N := some 41) (v := ?_) (a' := ?_) #[o,o,o,o,z,z,z,z,z,z,z,z,z,z,z,z,z,z,z,z,z,z,z,z,z] rfl rfl (any_of HT_.out (by kernel_rfl)) (fun _ _ _ h => h) (Or.inl ⟨by rfl, ?_⟩) ?_ ?_
         rotate_left
         ·intro w'
          go_simp
          with_reducible rfl
         rotate_left
         ·simp only [Act.put, List.setIfInBounds_toArray, List.set_cons_zero, List.set_cons_succ, i64_w, i32_w]
          rfl
         refine pure_ (i := 4) (N := some 42) (v := ?_) (a' := ?_) #[o,o,o,o,o,z,z,z,z,z,z,z,z,z,z,z,z,z,z,z,z,z,z,z,z] rfl rfl (any_of HT_.out (by kernel_rfl)) (fun _ _ _ h => h) (Or.inl ⟨by rfl, ?_⟩) ?_ ?_
         rotate_left
         ·intro w'
          go_simp
          with_reducible rfl
         rotate_left
         ·simp only [Act.put, List.setIfInBounds_toArray, List.set_cons_zero, List.set_cons_succ, i64_w, i32_w]
          rfl
         refine pure_ (i := 5) (N := some 43) (v := ?_) (a' := ?_) #[o,o,o,o,o,o,z,z,z,z,z,z,z,z,z,z,z,z,z,z,z,z,z,z,z] rfl rfl (any_of HT_.out (by kernel_rfl)) (fun _ _ _ h => h) (Or.inl ⟨by rfl, ?_⟩) ?_ ?_
         rotate_left
         ·intro w'
          go_simp
          with_reducible rfl
         rotate_left
         ·simp only [Act.put, List.setIfInBounds_toArray, List.set_cons_zero, List.set_cons_succ, i64_w, i32_w]
          rfl
         refine take_ (i := 6) (N := some 44) (v := ?_) (a' := ?_) #[o,o,o,o,o,o,o,z,z,z,z,z,z,z,z,z,z,z,z,z,z,z,z,z,z] rfl rfl (take_ofW HT_.out HW_.out (by kernel_rfl)) (fun _ _ _ h => h) (Or.inl ⟨by rfl, ?_⟩) hHeld ?_ ?_
         rotate_left
         ·rintro w' ⟨s0, s1, s2, s3, s4, s5, s6, s7, s8⟩
          go_simp
          with_reducible rfl
         rotate_left
         ·simp only [Act.put, List.setIfInBounds_toArray, List.set_cons_zero, List.set_cons_succ, i64_w, i32_w]
          rfl
         refine pure_ (i := 7) (N := some 45) (v := ?_) (a' := ?_) #[o,o,o,o,o,o,o,o,z,z,z,z,z,z,z,z,z,z,z,z,z,z,z,z,z] rfl rfl (any_of HT_.out (by kernel_rfl)) (fun _ _ _ h => h) (Or.inl ⟨by rfl, ?_⟩) ?_ ?_
         rotate_left
         ·intro w'
          go_simp
          with_reducible rfl
         rotate_left
         ·simp only [Act.put, List.setIfInBounds_toArray, List.set_cons_zero, List.set_cons_succ, i64_w, i32_w]
          rfl
         refine pure_ (i := 8) (N := some 46) (v := ?_) (a' := ?_) #[o,o,o,o,o,o,o,o,o,z,z,z,z,z,z,z,z,z,z,z,z,z,z,z,z] rfl rfl (any_of HT_.out (by kernel_rfl)) (fun _ _ _ h => h) (Or.inl ⟨by rfl, ?_⟩) ?_ ?_
         rotate_left
         ·intro w'
          go_simp
          with_reducible rfl
         rotate_left
         ·simp only [Act.put, List.setIfInBounds_toArray, List.set_cons_zero, List.set_cons_succ, i64_w, i32_w]
          rfl
         refine pure_ (i := 9) (N := some 47) (v := ?_) (a' := ?_) #[o,o,o,o,o,o,o,o,o,o,z,z,z,z,z,z,z,z,z,z,z,z,z,z,z] rfl rfl (any_of HT_.out (by kernel_rfl)) (fun _ _ _ h => h) (Or.inl ⟨by rfl, ?_⟩) ?_ ?_
         rotate_left
         ·intro w'
          go_simp
          with_reducible rfl
         rotate_left
         ·simp only [Act.put, List.setIfInBounds_toArray, List.set_cons_zero, List.set_cons_succ, i64_w, i32_w]
          rfl
         refine pure_ (i := 10) (N := some 48) (v := ?_) (a' := ?_) #[o,o,o,o,o,o,o,o,o,o,o,z,z,z,z,z,z,z,z,z,z,z,z,z,z] rfl rfl (any_of HT_.out (by kernel_rfl)) (fun _ _ _ h => h) (Or.inl ⟨by rfl, ?_⟩) ?_ ?_
         rotate_left
         ·intro w'
          go_simp
          with_reducible rfl
         rotate_left
         ·simp only [Act.put, List.setIfInBounds_toArray, List.set_cons_zero, List.set_cons_succ, i64_w, i32_w]
          rfl
         refine pure_ (i := 11) (N := some 49) (v := ?_) (a' := ?_) #[o,o,o,o,o,o,o,o,o,o,o,o,z,z,z,z,z,z,z,z,z,z,z,z,z] rfl rfl (any_of HT_.out (by kernel_rfl)) (fun _ _ _ h => h) (Or.inl ⟨by rfl, ?_⟩) ?_ ?_
         rotate_left
         ·intro w'
          go_simp
          with_reducible rfl
         rotate_left
         ·simp only [Act.put, List.setIfInBounds_toArray, List.set_cons_zero, List.set_cons_succ, i64_w, i32_w]
          rfl
         refine take_ (i := 12) (N := some 50) (v := ?_) (a' := ?_) #[o,o,o,o,o,o,o,o,o,o,o,o,o,z,z,z,z,z,z,z,z,z,z,z,z] rfl rfl (take_ofW HT_.out HW_.out (by kernel_rfl)) (fun _ _ _ h => h) (Or.inl ⟨by rfl, ?_⟩) hHeld ?_ ?_
         rotate_left
         ·rintro w' ⟨s0, s1, s2, s3, s4, s5, s6, s7, s8⟩
          go_simp
          with_reducible rfl
         rotate_left
         ·simp only [Act.put, List.setIfInBounds_toArray, List.set_cons_zero, List.set_cons_succ, i64_w, i32_w]
          rfl
         refine pure_ (i := 13) (N := some 51) (v := ?_) (a' := ?_) #[o,o,o,o,o,o,o,o,o,o,o,o,o,o,z,z,z,z,z,z,z,z,z,z,z] rfl rfl (any_of HT_.out (by kernel_rfl)) (fun _ _ _ h => h) (Or.inl ⟨by rfl, ?_⟩) ?_ ?_
         rotate_left
         ·intro w'
          go_simp
          with_reducible rfl
         rotate_left
         ·simp only [Act.put, List.setIfInBounds_toArray, List.set_cons_zero, List.set_cons_succ, i64_w, i32_w]
          rfl
         refine pure_ (i := 14) (N := some 52) (v := ?_) (a' := ?_) #[o,o,o,o,o,o,o,o,o,o,o,o,o,o,o,z,z,z,z,z,z,z,z,z,z] rfl rfl (any_of HT_.out (by kernel_rfl)) (fun _ _ _ h => h) (Or.inl ⟨by rfl, ?_⟩) ?_ ?_
         rotate_left
         ·intro w'
          go_simp
          with_reducible rfl
         rotate_left
         ·simp only [Act.put, List.setIfInBounds_toArray, List.set_cons_zero, List.set_cons_succ, i64_w, i32_w]
          rfl
         refine pure_ (i := 15) (N := some 53) (v := ?_) (a' := ?_) #[o,o,o,o,o,o,o,o,o,o,o,o,o,o,o,o,z,z,z,z,z,z,z,z,z] rfl rfl (any_of HT_.out (by kernel_rfl)) (fun _ _ _ h => h) (Or.inl ⟨by rfl, ?_⟩) ?_ ?_
         rotate_left
         ·intro w'
          go_simp
          with_reducible rfl
         rotate_left
         ·simp only [Act.put, List.setIfInBounds_toArray, List.set_cons_zero, List.set_cons_succ, i64_w, i32_w]
          rfl
         refine pure_ (i := 16) (N := some 54) (v := ?_) (a' := ?_) #[o,o,o,o,o,o,o,o,o,o,o,o,o,o,o,o,o,z,z,z,z,z,z,z,z] rfl rfl (any_of HT_.out (by kernel_rfl)) (fun _ _ _ h => h) (Or.inl ⟨by rfl, ?_⟩) ?_ ?_
         rotate_left
         ·intro w'
          go_simp
          with_reducible rfl
         rotate_left
         ·simp only [Act.put, List.setIfInBounds_toArray, List.set_cons_zero, List.set_cons_succ, i64_w, i32_w]
          rfl
         refine pure_ (i := 17) (N := some 55) (v := ?_) (a' := ?_) #[o,o,o,o,o,o,o,o,o,o,o,o,o,o,o,o,o,o,z,z,z,z,z,z,z] rfl rfl (any_of HT_.out (by kernel_rfl)) (fun _ _ _ h => h) (Or.inl ⟨by rfl, ?_⟩) ?_ ?_
         rotate_left
         ·intro w'
          go_simp
          with_reducible rfl
         rotate_left
         ·simp only [Act.put, List.setIfInBounds_toArray, List.set_cons_zero, List.set_cons_succ, i64_w, i32_w]
          rfl
         refine pure_ (i := 21) (N := some 59) (v := ?_) (a' := ?_) #[o,o,o,o,o,o,o,o,o,o,o,o,o,o,o,o,o,o,z,z,z,o,z,z,z] rfl rfl (any_of HT_.out (by kernel_rfl)) (fun _ _ _ h => h) (Or.inl ⟨by rfl, ?_⟩) ?_ ?_
         rotate_left
         ·intro w'
          go_simp
          with_reducible rfl
         rotate_left
         ·simp only [Act.put, List.setIfInBounds_toArray, List.set_cons_zero, List.set_cons_succ, i64_w, i32_w]
          rfl
         refine take_ (i := 18) (N := some 56) (v := ?_) (a' := ?_) #[o,o,o,o,o,o,o,o,o,o,o,o,o,o,o,o,o,o,o,z,z,o,z,z,z] rfl rfl (take_ofW HT_.out HW_.out (by kernel_rfl)) (fun _ _ _ h => h) (Or.inl ⟨by rfl, ?_⟩) hHeld ?_ ?_
         rotate_left
         ·rintro w' ⟨s0, s1, s2, s3, s4, s5, s6, s7, s8⟩
          go_simp
          with_reducible rfl
         rotate_left
         ·simp only [Act.put, List.setIfInBounds_toArray, List.set_cons_zero, List.set_cons_succ, i64_w, i32_w]
          rfl
         refine pure_ (i := 19) (N := some 57) (v := ?_) (a' := ?_) #[o,o,o,o,o,o,o,o,o,o,o,o,o,o,o,o,o,o,o,o,z,o,z,z,z] rfl rfl (any_of HT_.out (by kernel_rfl)) (fun _ _ _ h => h) (Or.inl ⟨by rfl, ?_⟩) ?_ ?_
         rotate_left
         ·intro w'
          go_simp
          with_reducible rfl
         rotate_left
         ·simp only [Act.put, List.setIfInBounds_toArray, List.set_cons_zero, List.set_cons_succ, i64_w, i32_w]
          rfl
         refine take_ (i := 20) (N := some 58) (v := ?_) (a' := ?_) #[o,o,o,o,o,o,o,o,o,o,o,o,o,o,o,o,o,o,o,o,o,o,z,z,z] rfl rfl (take_ofW HT_.out HW_.out (by kernel_rfl)) (fun _ _ _ h => h) (Or.inl ⟨by rfl, ?_⟩) hHeld ?_ ?_
         rotate_left
         ·rintro w' ⟨s0, s1, s2, s3, s4, s5, s6, s7, s8⟩
          go_simp
          with_reducible rfl
         rotate_left
         ·simp only [Act.put, List.setIfInBounds_toArray, List.set_cons_zero, List.set_cons_succ, i64_w, i32_w]
          rfl
         refine take_ (i := 22) (N := some 60) (v := ?_) (a' := ?_) #[o,o,o,o,o,o,o,o,o,o,o,o,o,o,o,o,o,o,o,o,o,o,o,z,z] rfl rfl (take_ofW HT_.out HW_.out (by kernel_rfl)) (fun _ _ _ h => h) (Or.inl ⟨by rfl, ?_⟩) hHeld ?_ ?_
         rotate_left
         ·rintro w' ⟨s0, s1, s2, s3, s4, s5, s6, s7, s8⟩
          go_simp
          with_reducible rfl
         rotate_left
         ·simp only [Act.put, List.setIfInBounds_toArray, List.set_cons_zero, List.set_cons_succ, i64_w, i32_w]
          rfl
         refine pure_ (i := 23) (N := some 61) (v := ?_) (a' := ?_) #[o,o,o,o,o,o,o,o,o,o,o,o,o,o,o,o,o,o,o,o,o,o,o,o,z] rfl rfl (any_of HT_.out (by kernel_rfl)) (fun _ _ _ h => h) (Or.inl ⟨by rfl, ?_⟩) ?_ ?_
         rotate_left
         ·intro w'
          go_simp
          with_reducible rfl
         rotate_left
         ·simp only [Act.put, List.setIfInBounds_toArray, List.set_cons_zero, List.set_cons_succ, i64_w, i32_w]
          rfl
         refine pure_ (i := 24) (N := some 62) (v := ?_) (a' := ?_) #[o,o,o,o,o,o,o,o,o,o,o,o,o,o,o,o,o,o,o,o,o,o,o,o,o] rfl rfl (any_of HT_.out (by kernel_rfl)) (fun _ _ _ h => h) (Or.inl ⟨by rfl, ?_⟩) ?_ ?_
         rotate_left
         ·intro w'
          go_simp
          with_reducible rfl
         rotate_left
         ·simp only [Act.put, List.setIfInBounds_toArray, List.set_cons_zero, List.set_cons_succ, i64_w, i32_w]
          rfl
         refine done_ (done_of HT_.out (by kernel_rfl)) ?_
         try go_wp2
         go_meet
         case rel => exact ⟨_, ((!(((rd_T33 t344 0).f0) == t337) || (!(((rd_T33 t344 0).f1) == t338)))), (by first | rfl | (simp; done) | (simp [*]; done)), H', ⟨by first | omega | exact Nat.le_refl _⟩, ⟨by (with_reducible repeat (first | apply Kd.R_alloc | apply Kd.R_drewN | apply Kd.R_drew)); exact HO336.out⟩, ⟨by (with_reducible repeat (first | apply Kd.R_alloc | apply Kd.R_drewN | apply Kd.R_drew)); exact HO346.out⟩, ⟨bB BK340.out⟩, ⟨bB BK347.out⟩, ⟨sB HB.out⟩⟩
        ·rw [if_neg c34] at H
         exact absurd H (by simp)
    case rest =>
     clear HC11
     try clear p2
     try clear c3
     try clear p3
     try clear q3
     try clear hx3
     try clear qi3
     try clear c8
     try clear c30
     try clear c30b0
     try clear c30b1
     try clear c32
     try clear c32b0
     try clear c32b1
     try clear c34
     try clear c34b0
     try clear c34b1
     try clear p35
     try clear q35
     try clear hx35
     try clear qi35
     try clear hx352_0
     try clear hx352_1
     try clear p352
     try clear q352
     obtain ⟨kq, x62_10, rfl, HA, HJ10, HO_3, HO_348003, BK340, BK347, HB⟩ := hcut
     cases kq with
     | zero => exact absurd HA.out (by simp [laws_FnFollowed.j0])
     | succ kj10 =>
      have H := HA.out
      clear HA
      simp only [laws_FnFollowed.j0] at H
      by_cases c36 : x62_10 = true
      ·subst c36
       have H1 : (some false) = some r := by rw [if_pos rfl] at H; exact H
       clear H
       have H := H1
       clear H1
       exact absurd ((Option.some.inj H).trans HRT.out) (by decide)
      ·replace c36 := Bool.eq_false_iff.mpr c36
       subst c36
       have H1 : (laws_FnFollowed.l0 kj10 t334 0 t337 t338 t339 t341 t342 t343 t344) = some r := by rw [if_neg (show ¬ (false = true) by decide)] at H; exact H
       clear H
       have H := H1
       clear H1
       have H' := Aside0.mk H
       clear H
       go_wp2
       go_loopg [6] kj10 (fun kq v6 w' => ∃ (x6_2 : Int), v6 = .int .i64 x6_2 ∧ Aside0 (laws_FnFollowed.l0 kq t334 x6_2 t337 t338 t339 t341 t342 t343 t344 = some r) ∧ Aside0 (kq ≤ kj10) ∧ Aside0 (Kd.R k35 35 w' w.heap.size (fun _ => True) (.slice Ao15 t334.length co15) t334) ∧ Aside0 (Kd.R k33 33 w' w.heap.size (fun _ => True) (.slice Ao20 t344.length co20) t344) ∧ Aside0 (w'.heap[gb340]? = some (.cells #[.int .i64 t337, .int .i64 t338, .int .i64 t339] 86 (0, 0))) ∧ Aside0 (w'.heap[gb347]? = some (.cells #[.int .i64 t341, .int .i64 t342, .int .i64 t343, (.slice Ao20 t344.length co20)] 105 (0, 0))) ∧ Aside0 (Below w.heap.size w w'))
       case atStart => exact ⟨(0), (by first | rfl | (simp; done) | (simp [*]; done)), H', ⟨Nat.le_refl _⟩, ⟨by (with_reducible repeat (first | apply Kd.R_alloc | apply Kd.R_drewN | apply Kd.R_drew)); exact HO_3.out⟩, ⟨by (with_reducible repeat (first | apply Kd.R_alloc | apply Kd.R_drewN | apply Kd.R_drew)); exact HO_348003.out⟩, ⟨bB BK340.out⟩, ⟨bB BK347.out⟩, ⟨sB HB.out⟩⟩
       case round =>
        clear H'
        try clear p2
        try clear c3
        try clear p3
        try clear q3
        try clear hx3
        try clear qi3
        try clear c8
        try clear c30
        try clear c30b0
        try clear c30b1
        try clear c32
        try clear c32b0
        try clear c32b1
        try clear c34
        try clear c34b0
        try clear c34b1
        try clear p35
        try clear q35
        try clear hx35
        try clear qi35
        try clear c36
        try clear hx352_0
        try clear hx352_1
        try clear p2
        try clear p3
        try clear p35
        try clear p352
        try clear q3
        try clear q35
        try clear q352
        obtain ⟨x6_2, rfl, HA, HK2, HO_3, HO_348003, BK340, BK347, HB⟩ := hrel
        cases gk with
        | zero => exact absurd HA.out (by simp [laws_FnFollowed.l0])
        | succ k2 =>
         have H := HA.out
         clear HA
         simp only [laws_FnFollowed.l0] at H
         by_cases c37 : x6_2 < (t344.length : Int)
         ·rw [if_pos c37] at H
          have c37b0 : decide (x6_2 < (t344.length : Int)) = true := decide_eq_true c37
          clear c37
          have H' := Aside0.mk H
          clear H
          have hnb38 := NB347_340.out
          have hnc38 := NB340_347.out
          have hcz39_0 : wr.cell? ⟨gb347, 0, none⟩ = some (.int .i64 t341) := (blk_cell BK347.out 0).trans rfl
          have hcz39_1 : wr.cell? ⟨gb347, 1, none⟩ = some (.int .i64 t342) := (blk_cell BK347.out 1).trans rfl
          have hcz39_2 : wr.cell? ⟨gb347, 2, none⟩ = some (.int .i64 t343) := (blk_cell BK347.out 2).trans rfl
          have hcz39_3 : wr.cell? ⟨gb347, 3, none⟩ = some (.slice Ao20 t344.length co20) := (blk_cell BK347.out 3).trans rfl
          have hfz39_0 := blk_frozen BK347.out 0
          have hfz39_1 := blk_frozen BK347.out 1
          have hfz39_2 := blk_frozen BK347.out 2
          have hfz39_3 := blk_frozen BK347.out 3
          go_wp2
          go_loopg [7] k2 (fun kq v7 w' => ∃ (x7_3 : Int), v7 = .int .i64 x7_3 ∧ Aside0 (laws_FnFollowed.l1 kq t334 x6_2 x7_3 t337 t338 t339 t341 t342 t343 t344 = some r) ∧ Aside0 (kq ≤ k2) ∧ Aside0 (Kd.R k35 35 w' w.heap.size (fun _ => True) (.slice Ao15 t334.length co15) t334) ∧ Aside0 (Kd.R k33 33 w' w.heap.size (fun _ => True) (.slice Ao20 t344.length co20) t344) ∧ Aside0 (w'.heap[gb340]? = some (.cells #[.int .i64 t337, .int .i64 t338, .int .i64 t339] 86 (0, 0))) ∧ Aside0 (w'.heap[gb347]? = some (.cells #[.int .i64 t341, .int .i64 t342, .int .i64 t343, (.slice Ao20 t344.length co20)] 105 (0, 0))) ∧ Aside0 (Below w.heap.size w w'))
          case atStart => exact ⟨(0), (by first | rfl | (simp; done) | (simp [*]; done)), H', ⟨Nat.le_refl _⟩, ⟨by (with_reducible repeat (first | apply Kd.R_alloc | apply Kd.R_drewN | apply Kd.R_drew)); exact HO_3.out⟩, ⟨by (with_reducible repeat (first | apply Kd.R_alloc | apply Kd.R_drewN | apply Kd.R_drew)); exact HO_348003.out⟩, ⟨bB BK340.out⟩, ⟨bB BK347.out⟩, ⟨sB HB.out⟩⟩
          case round =>
           clear H'
           try clear p2
           try clear c3
           try clear p3
           try clear q3
           try clear hx3
           try clear qi3
           try clear c8
           try clear c30
           try clear c30b0
           try clear c30b1
           try clear c32
           try clear c32b0
           try clear c32b1
           try clear c34
           try clear c34b0
           try clear c34b1
           try clear p35
           try clear q35
           try clear hx35
           try clear qi35
           try clear c36
           try clear c37
           try clear c37b0
           try clear c38
           try clear hcz39_0 hcz39_1 hcz39_2 hcz39_3
           try clear hfz39_0 hfz39_1 hfz39_2 hfz39_3
           try clear hx352_0
           try clear hx352_1
           try clear p2
           try clear p3
           try clear p35
           try clear p352
           try clear q3
           try clear q35
           try clear q352
           obtain ⟨x7_3, rfl, HA, HK3, HO_3, HO_348003, BK340, BK347, HB⟩ := hrel
           cases gk with
           | zero => exact absurd HA.out (by simp [laws_FnFollowed.l1])
           | succ k3 =>
            have H := HA.out
            clear HA
            simp only [laws_FnFollowed.l1] at H
            by_cases c40 : x7_3 < x6_2
            ·rw [if_pos c40] at H
             have c40b0 : decide (x7_3 < x6_2) = true := decide_eq_true c40
             clear c40
             by_cases c41 : 0 ≤ x6_2
             ·rw [if_pos c41] at H
              have c41b0 : decide (0 ≤ x6_2) = true := decide_eq_true c41
              clear c41
              by_cases c42 : x6_2 < (t344.length : Int)
              ·rw [if_pos c42] at H
               have c42b0 : decide (x6_2 < (t344.length : Int)) = true := decide_eq_true c42
               clear c42
               by_cases c43 : 0 ≤ x7_3
               ·rw [if_pos c43] at H
                have c43b0 : decide (0 ≤ x7_3) = true := decide_eq_true c43
                clear c43
                by_cases c44 : x7_3 < (t344.length : Int)
                ·rw [if_pos c44] at H
                 have c44b0 : decide (x7_3 < (t344.length : Int)) = true := decide_eq_true c44
                 clear c44
                 by_cases c45 : (((rd_T33 t344 x6_2).f0) == ((rd_T33 t344 x7_3).f0) && (((rd_T33 t344 x6_2).f1) == ((rd_T33 t344 x7_3).f1))) = true
                 ·rw [if_pos c45] at H
                  have c45b0 : (((rd_T33 t344 x6_2).f0) == ((rd_T33 t344 x7_3).f0) && (((rd_T33 t344 x6_2).f1) == ((rd_T33 t344 x7_3).f1))) = true := c45
                  (try (have c45b1 : decide (((rd_T33 t344 x6_2).f0) = ((rd_T33 t344 x7_3).f0) && (((rd_T33 t344 x6_2).f1) == ((rd_T33 t344 x7_3).f1))) = true := by simpa using c45))
                  (try (have c45b2 : (((rd_T33 t344 x6_2).f0) == ((rd_T33 t344 x7_3).f0) && (((rd_T33 t344 x6_2).f1) == ((rd_T33 t344 x7_3).f1))) = true := by simpa using c45))
                  clear c45
                  exact absurd ((Option.some.inj H).trans HRT.out) (by decide)
                 ·rw [if_neg c45] at H
                  have c45b0 : (((rd_T33 t344 x6_2).f0) == ((rd_T33 t344 x7_3).f0) && (((rd_T33 t344 x6_2).f1) == ((rd_T33 t344 x7_3).f1))) = false := by simpa using c45
                  (try (have c45b1 : decide (((rd_T33 t344 x6_2).f0) = ((rd_T33 t344 x7_3).f0) && (((rd_T33 t344 x6_2).f1) == ((rd_T33 t344 x7_3).f1))) = false := by simpa using c45))
                  (try (have c45b2 : (((rd_T33 t344 x6_2).f0) == ((rd_T33 t344 x7_3).f0) && (((rd_T33 t344 x6_2).f1) == ((rd_T33 t344 x7_3).f1))) = false := by simpa using c45))
                  (try (have c45b3 : ¬ (((rd_T33 t344 x6_2).f0) = ((rd_T33 t344 x7_3).f0) && (((rd_T33 t344 x6_2).f1) == ((rd_T33 t344 x7_3).f1))) := by simpa using c45))
                  clear c45
                  have H' := Aside0.mk H
                  clear H
                  try go_wp2
                  replace HO_3 := am (Kd.R_drew HO_3.out)
                  replace HO_348003 := am (Kd.R_drew HO_348003.out)
                  replace BK340 := am (blk_drew BK340.out)
                  replace BK347 := am (blk_drew BK347.out)
                  replace HB := am (below_drew1 HB.out)
                  have p353 : 0 ≤ (x6_2 : Int) := of_decide_eq_true (by first | (with_reducible assumption) | assumption)
                  have q353 : x6_2 < (t344.length : Int) := of_decide_eq_true (by first | (with_reducible assumption) | assumption)
                  obtain ⟨ad353, e353, hx353_0, hx353_1⟩ := at_T33 (Kd.R_reads' HO_348003.out).2.2 x6_2 p353 q353
                  cases e353
                  replace p353 := eq_true p353
                  replace q353 := eq_true q353
                  have p354 : 0 ≤ (x7_3 : Int) := of_decide_eq_true (by first | (with_reducible assumption) | assumption)
                  have q354 : x7_3 < (t344.length : Int) := of_decide_eq_true (by first | (with_reducible assumption) | assumption)
                  obtain ⟨ad354, e354, hx354_0, hx354_1⟩ := at_T33 (Kd.R_reads' HO_348003.out).2.2 x7_3 p354 q354
                  obtain rfl : ad353 = ad354 := (by injection e354)
                  replace p354 := eq_true p354
                  replace q354 := eq_true q354
                  refine start_ (n := 11) (S := fun w' => w'.cell? ⟨gb347, 0, none⟩ = some (.int .i64 t341) ∧ w'.cell? ⟨gb347, 1, none⟩ = some (.int .i64 t342) ∧ w'.cell? ⟨gb347, 2, none⟩ = some (.int .i64 t343) ∧ w'.cell? ⟨gb347, 3, none⟩ = some (.slice (some ad353) t344.length co20) ∧ w'.cell? (ad353.add ((x6_2).toNat * 2)) = some (.int .i64 ((rd_T33 t344 x6_2).f0)) ∧ w'.cell? ⟨(ad353.add ((x6_2).toNat * 2)).block, (ad353.add ((x6_2).toNat * 2)).off + 1, none⟩ = some (.int .i64 ((rd_T33 t344 x6_2).f1)) ∧ w'.cell? (ad353.add ((x7_3).toNat * 2)) = some (.int .i64 ((rd_T33 t344 x7_3).f0)) ∧ w'.cell? ⟨(ad353.add ((x7_3).toNat * 2)).block, (ad353.add ((x7_3).toNat * 2)).off + 1, none⟩ = some (.int .i64 ((rd_T33 t344 x7_3).f1))) (ds := []) #[z,z,z,z,z,z,z,z,z,z,z] (by kernel_rfl) rfl rfl ⟨(blk_cell BK347.out 0).trans rfl, (blk_cell BK347.out 1).trans rfl, (blk_cell BK347.out 2).trans rfl, (blk_cell BK347.out 3).trans rfl, hx353_0, hx353_1, hx354_0, hx354_1⟩ (fun hHeld => ?_); refine with_tabW laws_FnFollowed.tab17 laws_FnFollowed.bits17 (fun HT_ HW_ => ?_)
                  generalize wr.drew = w46 at HO_3 HO_348003 BK340 BK347 HB hx353_0 hx353_1 hx354_0 hx354_1 hHeld ⊢
                  refine pure_ (i := 0) (N := some 75) (v := ?_) (a' := ?_) #[o,z,z,z,z,z,z,z,z,z,z] rfl rfl (any_of HT_.out (by kernel_rfl)) (fun _ _ _ h => h) (Or.inl ⟨by rfl, ?_⟩) ?_ ?_
                  rotate_left
                  ·intro w'
                   go_simp
                   with_reducible rfl
                  rotate_left
                  ·simp only [Act.put, List.setIfInBounds_toArray, List.set_cons_zero, List.set_cons_succ, i64_w, i32_w]
                   rfl
                  refine pure_ (i := 2) (N := some 77) (v := ?_) (a' := ?_) #[o,z,o,z,z,z,z,z,z,z,z] rfl rfl (any_of HT_.out (by kernel_rfl)) (fun _ _ _ h => h) (Or.inl ⟨by rfl, ?_⟩) ?_ ?_
                  rotate_left
                  ·intro w'
                   go_simp
                   with_reducible rfl
                  rotate_left
                  ·simp only [Act.put, List.setIfInBounds_toArray, List.set_cons_zero, List.set_cons_succ, i64_w, i32_w]
                   rfl
                  refine pure_ (i := 5) (N := some 80) (v := ?_) (a' := ?_) #[o,z,o,z,z,o,z,z,z,z,z] rfl rfl (any_of HT_.out (by kernel_rfl)) (fun _ _ _ h => h) (Or.inl ⟨by rfl, ?_⟩) ?_ ?_
                  rotate_left
                  ·intro w'
                   go_simp
                   with_reducible rfl
                  rotate_left
                  ·simp only [Act.put, List.setIfInBounds_toArray, List.set_cons_zero, List.set_cons_succ, i64_w, i32_w]
                   rfl
                  refine pure_ (i := 7) (N := some 82) (v := ?_) (a' := ?_) #[o,z,o,z,z,o,z,o,z,z,z] rfl rfl (any_of HT_.out (by kernel_rfl)) (fun _ _ _ h => h) (Or.inl ⟨by rfl, ?_⟩) ?_ ?_
                  rotate_left
                  ·intro w'
                   go_simp
                   with_reducible rfl
                  rotate_left
                  ·simp only [Act.put, List.setIfInBounds_toArray, List.set_cons_zero, List.set_cons_succ, i64_w, i32_w]
                   rfl
                  refine take_ (i := 1) (N := some 76) (v := ?_) (a' := ?_) #[o,o,o,z,z,o,z,o,z,z,z] rfl rfl (take_ofW HT_.out HW_.out (by kernel_rfl)) (fun _ _ _ h => h) (Or.inl ⟨by rfl, ?_⟩) hHeld ?_ ?_
                  rotate_left
                  ·rintro w' ⟨s0, s1, s2, s3, s4, s5, s6, s7⟩
                   go_simp
                   with_reducible rfl
                  rotate_left
                  ·simp only [Act.put, List.setIfInBounds_toArray, List.set_cons_zero, List.set_cons_succ, i64_w, i32_w]
                   rfl
                  refine pure_ (i := 3) (N := some 78) (v := ?_) (a' := ?_) #[o,o,o,o,z,o,z,o,z,z,z] rfl rfl (any_of HT_.out (by kernel_rfl)) (fun _ _ _ h => h) (Or.inl ⟨by rfl, ?_⟩) ?_ ?_
                  rotate_left
                  ·intro w'
                   go_simp
                   with_reducible rfl
                  rotate_left
                  ·simp only [Act.put, List.setIfInBounds_toArray, List.set_cons_zero, List.set_cons_succ, i64_w, i32_w]
                   rfl
                  refine take_ (i := 4) (N := some 79) (v := ?_) (a' := ?_) #[o,o,o,o,o,o,z,o,z,z,z] rfl rfl (take_ofW HT_.out HW_.out (by kernel_rfl)) (fun _ _ _ h => h) (Or.inl ⟨by rfl, ?_⟩) hHeld ?_ ?_
                  rotate_left
                  ·rintro w' ⟨s0, s1, s2, s3, s4, s5, s6, s7⟩
                   go_simp
                   with_reducible rfl
                  rotate_left
                  ·simp only [Act.put, List.setIfInBounds_toArray, List.set_cons_zero, List.set_cons_succ, i64_w, i32_w]
                   rfl
                  refine take_ (i := 6) (N := some 81) (v := ?_) (a' := ?_) #[o,o,o,o,o,o,o,o,z,z,z] rfl rfl (take_ofW HT_.out HW_.out (by kernel_rfl)) (fun _ _ _ h => h) (Or.inl ⟨by rfl, ?_⟩) hHeld ?_ ?_
                  rotate_left
                  ·rintro w' ⟨s0, s1, s2, s3, s4, s5, s6, s7⟩
                   go_simp
                   with_reducible rfl
                  rotate_left
                  ·simp only [Act.put, List.setIfInBounds_toArray, List.set_cons_zero, List.set_cons_succ, i64_w, i32_w]
                   rfl
                  refine pure_ (i := 8) (N := some 83) (v := ?_) (a' := ?_) #[o,o,o,o,o,o,o,o,o,z,z] rfl rfl (any_of HT_.out (by kernel_rfl)) (fun _ _ _ h => h) (Or.inl ⟨by rfl, ?_⟩) ?_ ?_
                  rotate_left
                  ·intro w'
                   go_simp
                   with_reducible rfl
                  rotate_left
                  ·simp only [Act.put, List.setIfInBounds_toArray, List.set_cons_zero, List.set_cons_succ, i64_w, i32_w]
                   rfl
                  refine take_ (i := 9) (N := some 84) (v := ?_) (a' := ?_) #[o,o,o,o,o,o,o,o,o,o,z] rfl rfl (take_ofW HT_.out HW_.out (by kernel_rfl)) (fun _ _ _ h => h) (Or.inl ⟨by rfl, ?_⟩) hHeld ?_ ?_
                  rotate_left
                  ·rintro w' ⟨s0, s1, s2, s3, s4, s5, s6, s7⟩
                   go_simp
                   with_reducible rfl
                  rotate_left
                  ·simp only [Act.put, List.setIfInBounds_toArray, List.set_cons_zero, List.set_cons_succ, i64_w, i32_w]
                   rfl
                  refine pure_ (i := 10) (N := some 85) (v := ?_) (a' := ?_) #[o,o,o,o,o,o,o,o,o,o,o] rfl rfl (any_of HT_.out (by kernel_rfl)) (fun _ _ _ h => h) (Or.inl ⟨by rfl, ?_⟩) ?_ ?_
                  rotate_left
                  ·intro w'
                   go_simp
                   with_reducible rfl
                  rotate_left
                  ·simp only [Act.put, List.setIfInBounds_toArray, List.set_cons_zero, List.set_cons_succ, i64_w, i32_w]
                   rfl
                  refine done_ (done_of HT_.out (by kernel_rfl)) ?_
                  try go_wp2
                  go_roundg k3
                  case measure => have := HJ10.out; have := HK2.out; have := HK3.out; omega
                  case rel => exact ⟨(wrap64 (x7_3 + 1)), (by first | rfl | (simp; done) | (simp [*]; done)), H', ⟨by have := HJ10.out; have := HK2.out; have := HK3.out; omega⟩, ⟨by (with_reducible repeat (first | apply Kd.R_alloc | apply Kd.R_drewN | apply Kd.R_drew)); exact HO_3.out⟩, ⟨by (with_reducible repeat (first | apply Kd.R_alloc | apply Kd.R_drewN | apply Kd.R_drew)); exact HO_348003.out⟩, ⟨bB BK340.out⟩, ⟨bB BK347.out⟩, ⟨sB HB.out⟩⟩
                ·rw [if_neg c44] at H
                 exact absurd H (by simp)
               ·rw [if_neg c43] at H
                exact absurd H (by simp)
              ·rw [if_neg c42] at H
               exact absurd H (by simp)
             ·rw [if_neg c41] at H
              exact absurd H (by simp)
            ·rw [if_neg c40] at H
             have c40b0 : decide (x7_3 < x6_2) = false := decide_eq_false c40
             clear c40
             by_cases c47 : 0 ≤ x6_2
             ·rw [if_pos c47] at H
              have c47b0 : decide (0 ≤ x6_2) = true := decide_eq_true c47
              clear c47
              by_cases c48 : x6_2 < (t344.length : Int)
              ·rw [if_pos c48] at H
               have c48b0 : decide (x6_2 < (t344.length : Int)) = true := decide_eq_true c48
               clear c48
               replace H := Option.bind_eq_some_iff.mp H
               obtain ⟨t356, A490, H⟩ := H
               replace H : (if (x6_2 = (wrap64 ((t344.length : Int) - 1))) then (if x6_2 = (wrap64 ((t344.length : Int) - 1)) then (if ((t341 == 1) != (t356 == 1)) = true then (some false) else (if ((t341 == 2) != (t356 == 2)) = true then (some false) else (laws_FnFollowed.l0 k3 t334 (wrap64 (x6_2 + 1)) t337 t338 t339 t341 t342 t343 t344))) else (laws_FnFollowed.l0 k3 t334 (wrap64 (x6_2 + 1)) t337 t338 t339 t341 t342 t343 t344)) else (if t356 = 3 then (if x6_2 = (wrap64 ((t344.length : Int) - 1)) then (if ((t341 == 1) != (t356 == 1)) = true then (some false) else (if ((t341 == 2) != (t356 == 2)) = true then (some false) else (laws_FnFollowed.l0 k3 t334 (wrap64 (x6_2 + 1)) t337 t338 t339 t341 t342 t343 t344))) else (laws_FnFollowed.l0 k3 t334 (wrap64 (x6_2 + 1)) t337 t338 t339 t341 t342 t343 t344)) else (some false))) = some r := H
               have A49 := Aside0.mk A490
               clear A490
               by_cases c50 : (x6_2 = (wrap64 ((t344.length : Int) - 1)))
               ·rw [if_pos c50] at H
                have c50b0 : (x6_2 == (wrap64 ((t344.length : Int) - 1))) = true := beq_iff_eq.mpr c50
                have c50b1 : (x6_2 != (wrap64 ((t344.length : Int) - 1))) = false := bne_eq_false_iff_eq.mpr c50
                clear c50
                by_cases c51 : x6_2 = (wrap64 ((t344.length : Int) - 1))
                ·rw [if_pos c51] at H
                 have c51b0 : (x6_2 == (wrap64 ((t344.length : Int) - 1))) = true := beq_iff_eq.mpr c51
                 have c51b1 : (x6_2 != (wrap64 ((t344.length : Int) - 1))) = false := bne_eq_false_iff_eq.mpr c51
                 clear c51
                 by_cases c52 : ((t341 == 1) != (t356 == 1)) = true
                 ·rw [if_pos c52] at H
                  have c52b0 : ((t341 == 1) != (t356 == 1)) = true := c52
                  (try (have c52b1 : decide ((t341 == 1) = (t356 == 1)) = false := by simpa using c52))
                  (try (have c52b2 : ((t341 == 1) == (t356 == 1)) = false := by simpa using c52))
                  (try (have c52b3 : ¬ ((t341 == 1) = (t356 == 1)) := by simpa using c52))
                  clear c52
                  exact absurd ((Option.some.inj H).trans HRT.out) (by decide)
                 ·rw [if_neg c52] at H
                  have c52b0 : ((t341 == 1) != (t356 == 1)) = false := by simpa using c52
                  (try (have c52b1 : decide ((t341 == 1) = (t356 == 1)) = true := by simpa using c52))
                  (try (have c52b2 : ((t341 == 1) == (t356 == 1)) = true := by simpa using c52))
                  clear c52
                  by_cases c53 : ((t341 == 2) != (t356 == 2)) = true
                  ·rw [if_pos c53] at H
                   have c53b0 : ((t341 == 2) != (t356 == 2)) = true := c53
                   (try (have c53b1 : decide ((t341 == 2) = (t356 == 2)) = false := by simpa using c53))
                   (try (have c53b2 : ((t341 == 2) == (t356 == 2)) = false := by simpa using c53))
                   (try (have c53b3 : ¬ ((t341 == 2) = (t356 == 2)) := by simpa using c53))
                   clear c53
                   exact absurd ((Option.some.inj H).trans HRT.out) (by decide)
                  ·rw [if_neg c53] at H
                   have c53b0 : ((t341 == 2) != (t356 == 2)) = false := by simpa using c53
                   (try (have c53b1 : decide ((t341 == 2) = (t356 == 2)) = true := by simpa using c53))
                   (try (have c53b2 : ((t341 == 2) == (t356 == 2)) = true := by simpa using c53))
                   clear c53
                   have H' := Aside0.mk H
                   clear H
                   try go_wp2
                   replace HO_3 := am (Kd.R_drew HO_3.out)
                   replace HO_348003 := am (Kd.R_drew HO_348003.out)
                   replace BK340 := am (blk_drew BK340.out)
                   replace BK347 := am (blk_drew BK347.out)
                   replace HB := am (below_drew1 HB.out)
                   have p355 : 0 ≤ (x6_2 : Int) := of_decide_eq_true (by first | (with_reducible assumption) | assumption)
                   have q355 : x6_2 < (t344.length : Int) := of_decide_eq_true (by first | (with_reducible assumption) | assumption)
                   obtain ⟨ad355, e355, hx355_0, hx355_1⟩ := at_T33 (Kd.R_reads' HO_348003.out).2.2 x6_2 p355 q355
                   cases e355
                   replace p355 := eq_true p355
                   replace q355 := eq_true q355
                   refine start_ (n := 11) (S := fun w' => w'.cell? ⟨gb347, 0, none⟩ = some (.int .i64 t341) ∧ w'.cell? ⟨gb347, 1, none⟩ = some (.int .i64 t342) ∧ w'.cell? ⟨gb347, 2, none⟩ = some (.int .i64 t343) ∧ w'.cell? ⟨gb347, 3, none⟩ = some (.slice (some ad355) t344.length co20) ∧ w'.cell? ⟨gb340, 0, none⟩ = some (.int .i64 t337) ∧ w'.cell? ⟨gb340, 1, none⟩ = some (.int .i64 t338) ∧ w'.cell? ⟨gb340, 2, none⟩ = some (.int .i64 t339) ∧ w'.cell? (ad355.add ((x6_2).toNat * 2)) = some (.int .i64 ((rd_T33 t344 x6_2).f0)) ∧ w'.cell? ⟨(ad355.add ((x6_2).toNat * 2)).block, (ad355.add ((x6_2).toNat * 2)).off + 1, none⟩ = some (.int .i64 ((rd_T33 t344 x6_2).f1))) (ds := []) #[z,z,z,z,z,z,z,z,z,z,z] (by kernel_rfl) rfl rfl ⟨(blk_cell BK347.out 0).trans rfl, (blk_cell BK347.out 1).trans rfl, (blk_cell BK347.out 2).trans rfl, (blk_cell BK347.out 3).trans rfl, (blk_cell BK340.out 0).trans rfl, (blk_cell BK340.out 1).trans rfl, (blk_cell BK340.out 2).trans rfl, hx355_0, hx355_1⟩ (fun hHeld => ?_); refine with_tabW laws_FnFollowed.tab19 laws_FnFollowed.bits19 (fun HT_ HW_ => ?_)
                   generalize wr.drew = w54 at HO_3 HO_348003 BK340 BK347 HB hx355_0 hx355_1 hHeld ⊢
                   refine pure_ (i := 0) (N := some 86) (v := ?_) (a' := ?_) #[o,z,z,z,z,z,z,z,z,z,z] rfl rfl (any_of HT_.out (by kernel_rfl)) (fun _ _ _ h => h) (Or.inl ⟨by rfl, ?_⟩) ?_ ?_
                   rotate_left
                   ·intro w'
                    go_simp
                    with_reducible rfl
                   rotate_left
                   ·simp only [Act.put, List.setIfInBounds_toArray, List.set_cons_zero, List.set_cons_succ, i64_w, i32_w]
                    rfl
                   refine pure_ (i := 1) (N := some 87) (v := ?_) (a' := ?_) #[o,o,z,z,z,z,z,z,z,z,z] rfl rfl (any_of HT_.out (by kernel_rfl)) (fun _ _ _ h => h) (Or.inl ⟨by rfl, ?_⟩) ?_ ?_
                   rotate_left
                   ·intro w'
                    go_simp
                    with_reducible rfl
                   rotate_left
                   ·simp only [Act.put, List.setIfInBounds_toArray, List.set_cons_zero, List.set_cons_succ, i64_w, i32_w]
                    rfl
                   refine pure_ (i := 3) (N := some 89) (v := ?_) (a' := ?_) #[o,o,z,o,z,z,z,z,z,z,z] rfl rfl (any_of HT_.out (by kernel_rfl)) (fun _ _ _ h => h) (Or.inl ⟨by rfl, ?_⟩) ?_ ?_
                   rotate_left
                   ·intro w'
                    go_simp
                    with_reducible rfl
                   rotate_left
                   ·simp only [Act.put, List.setIfInBounds_toArray, List.set_cons_zero, List.set_cons_succ, i64_w, i32_w]
                    rfl
                   refine pure_ (i := 6) (N := some 92) (v := ?_) (a' := ?_) #[o,o,z,o,z,z,o,z,z,z,z] rfl rfl (any_of HT_.out (by kernel_rfl)) (fun _ _ _ h => h) (Or.inl ⟨by rfl, ?_⟩) ?_ ?_
                   rotate_left
                   ·intro w'
                    go_simp
                    with_reducible rfl
                   rotate_left
                   ·simp only [Act.put, List.setIfInBounds_toArray, List.set_cons_zero, List.set_cons_succ, i64_w, i32_w]
                    rfl
                   refine take_ (i := 2) (N := some 88) (v := ?_) (a' := ?_) #[o,o,o,o,z,z,o,z,z,z,z] rfl rfl (take_ofW HT_.out HW_.out (by kernel_rfl)) (fun _ _ _ h => h) (Or.inl ⟨by rfl, ?_⟩) hHeld ?_ ?_
                   rotate_left
                   ·rintro w' ⟨s0, s1, s2, s3, s4, s5, s6, s7, s8⟩
                    go_simp
                    with_reducible rfl
                   rotate_left
                   ·simp only [Act.put, List.setIfInBounds_toArray, List.set_cons_zero, List.set_cons_succ, i64_w, i32_w]
                    rfl
                   refine pure_ (i := 4) (N := some 90) (v := ?_) (a' := ?_) #[o,o,o,o,o,z,o,z,z,z,z] rfl rfl (any_of HT_.out (by kernel_rfl)) (fun _ _ _ h => h) (Or.inl ⟨by rfl, ?_⟩) ?_ ?_
                   rotate_left
                   ·intro w'
                    go_simp
                    with_reducible rfl
                   rotate_left
                   ·simp only [Act.put, List.setIfInBounds_toArray, List.set_cons_zero, List.set_cons_succ, i64_w, i32_w]
                    rfl
                   refine take_ (i := 5) (N := some 91) (v := ?_) (a' := ?_) #[o,o,o,o,o,o,o,z,z,z,z] rfl rfl (take_ofW HT_.out HW_.out (by kernel_rfl)) (fun _ _ _ h => h) (Or.inl ⟨by rfl, ?_⟩) hHeld ?_ ?_
                   rotate_left
                   ·rintro w' ⟨s0, s1, s2, s3, s4, s5, s6, s7, s8⟩
                    go_simp
                    with_reducible rfl
                   rotate_left
                   ·simp only [Act.put, List.setIfInBounds_toArray, List.set_cons_zero, List.set_cons_succ, i64_w, i32_w]
                    rfl
                   refine take_ (i := 7) (N := some 93) (v := ?_) (a' := ?_) #[o,o,o,o,o,o,o,o,z,z,z] rfl rfl (take_ofW HT_.out HW_.out (by kernel_rfl)) (fun _ _ _ h => h) (Or.inl ⟨by rfl, ?_⟩) hHeld ?_ ?_
                   rotate_left
                   ·rintro w' ⟨s0, s1, s2, s3, s4, s5, s6, s7, s8⟩
                    go_simp
                    with_reducible rfl
                   rotate_left
                   ·simp only [Act.put, List.setIfInBounds_toArray, List.set_cons_zero, List.set_cons_succ, i64_w, i32_w]
                    rfl
                   refine pure_ (i := 8) (N := some 94) (v := ?_) (a' := ?_) #[o,o,o,o,o,o,o,o,o,z,z] rfl rfl (any_of HT_.out (by kernel_rfl)) (fun _ _ _ h => h) (Or.inl ⟨by rfl, ?_⟩) ?_ ?_
                   rotate_left
                   ·intro w'
                    go_simp
                    with_reducible rfl
                   rotate_left
                   ·simp only [Act.put, List.setIfInBounds_toArray, List.set_cons_zero, List.set_cons_succ, i64_w, i32_w]
                    rfl
                   refine one_ (i := 9) (N := some 95) #[o,o,o,o,o,o,o,o,o,o,z] rfl rfl (one_of HT_.out (by kernel_rfl)) (by decide) (fun K hK => ?_)
                   refine goes_ Try.func82 (by kernel_rfl) rfl #[.slice Ao15 t334.length co15, .agg #[.int .i64 ((rd_T33 t344 x6_2).f0), .int .i64 ((rd_T33 t344 x6_2).f1), .int .i64 t339]] (by rfl) rfl rfl (by (try simp only [List.map_toArray, List.map_cons, List.map_nil]); first | done | rfl | (simp only [List.length_drop, List.length_take]; rfl)) ?_
                   with_reducible refine (impl_ActionFor.calls k3 _ _ t334 ((rd_T33 t344 x6_2).f0) ((rd_T33 t344 x6_2).f1) t339 t356 _ ?side1 ?side2 A49.out).mono ?_
                   (case side1 => exact cB ((Kd.R_reads' HO_3.out).2.2))
                   (case side2 => exact (Kd.R_reads' HO_3.out).2.1)
                   rintro e w55 ⟨rfl, hb⟩
                   have HS7_ := (hb.cell (World.block_lt_of_cell? _ _ (hHeld.2.2.2.2.2.2.2.1))).trans (hHeld.2.2.2.2.2.2.2.1)
                   have HS8_ := (hb.cell (World.block_lt_of_cell? _ _ (hHeld.2.2.2.2.2.2.2.2))).trans (hHeld.2.2.2.2.2.2.2.2)
                   refine ⟨_, rfl, ?_⟩
                   replace HO_3 := am (Kd.R_below (rB HO_3.out) hb)
                   replace HO_348003 := am (Kd.R_below (rB HO_348003.out) hb)
                   replace BK340 := am (blk_below (bB BK340.out) hb)
                   replace BK347 := am (blk_below (bB BK347.out) hb)
                   replace HB := am (below_step (sB HB.out) hb)
                   (try clear hb)
                   (try clear hb2)
                   (try clear hk)
                   (try clear hi)
                   refine hK.out _ _ ⟨(blk_cell BK347.out 0).trans rfl, (blk_cell BK347.out 1).trans rfl, (blk_cell BK347.out 2).trans rfl, (blk_cell BK347.out 3).trans rfl, (blk_cell BK340.out 0).trans rfl, (blk_cell BK340.out 1).trans rfl, (blk_cell BK340.out 2).trans rfl, HS7_, HS8_⟩ (fun hHeld => ?_)
                   clear hK K
                   refine norm_ (a' := ?_) ?_ ?_
                   rotate_left
                   ·show Act.put _ (some 95) _ = _
                    simp only [Act.put, List.setIfInBounds_toArray, List.set_cons_zero, List.set_cons_succ, i64_w, i32_w]
                    rfl
                   refine pure_ (i := 10) (N := some 8) (v := ?_) (a' := ?_) #[o,o,o,o,o,o,o,o,o,o,o] rfl rfl (any_of HT_.out (by kernel_rfl)) (fun _ _ _ h => h) (Or.inl ⟨by rfl, ?_⟩) ?_ ?_
                   rotate_left
                   ·intro w'
                    go_simp
                    with_reducible rfl
                   rotate_left
                   ·simp only [Act.put, List.setIfInBounds_toArray, List.set_cons_zero, List.set_cons_succ, i64_w, i32_w]
                    rfl
                   refine done_ (done_of HT_.out (by kernel_rfl)) ?_
                   have hnb56 := NB347_340.out
                   have hnc56 := NB340_347.out
                   have hcz57_0 : w55.cell? ⟨gb347, 0, none⟩ = some (.int .i64 t341) := (blk_cell BK347.out 0).trans rfl
                   have hcz57_1 : w55.cell? ⟨gb347, 1, none⟩ = some (.int .i64 t342) := (blk_cell BK347.out 1).trans rfl
                   have hcz57_2 : w55.cell? ⟨gb347, 2, none⟩ = some (.int .i64 t343) := (blk_cell BK347.out 2).trans rfl
                   have hcz57_3 : w55.cell? ⟨gb347, 3, none⟩ = some (.slice (some ad355) t344.length co20) := (blk_cell BK347.out 3).trans rfl
                   have hfz57_0 := blk_frozen BK347.out 0
                   have hfz57_1 := blk_frozen BK347.out 1
                   have hfz57_2 := blk_frozen BK347.out 2
                   have hfz57_3 := blk_frozen BK347.out 3
                   try go_wp2
                   go_roundg k3
                   case measure => have := HJ10.out; have := HK2.out; have := HK3.out; omega
                   case rel => exact ⟨(wrap64 (x6_2 + 1)), (by first | rfl | (simp; done) | (simp [*]; done)), H', ⟨by have := HJ10.out; have := HK2.out; have := HK3.out; omega⟩, ⟨by (with_reducible repeat (first | apply Kd.R_alloc | apply Kd.R_drewN | apply Kd.R_drew)); exact HO_3.out⟩, ⟨by (with_reducible repeat (first | apply Kd.R_alloc | apply Kd.R_drewN | apply Kd.R_drew)); exact HO_348003.out⟩, ⟨bB BK340.out⟩, ⟨bB BK347.out⟩, ⟨sB HB.out⟩⟩
                ·exact (c51 (by simpa using c50b0)).elim
               ·rw [if_neg c50] at H
                have c50b0 : (x6_2 == (wrap64 ((t344.length : Int) - 1))) = false := beq_eq_false_iff_ne.mpr c50
                have c50b1 : (x6_2 != (wrap64 ((t344.length : Int) - 1))) = true := bne_iff_ne.mpr c50
                by_cases c62 : t356 = 3
                ·rw [if_pos c62] at H
                 have c62b0 : (t356 == 3) = true := beq_iff_eq.mpr c62
                 have c62b1 : (t356 != 3) = false := bne_eq_false_iff_eq.mpr c62
                 clear c62
                 by_cases c63 : x6_2 = (wrap64 ((t344.length : Int) - 1))
                 ·exact absurd c63 (by simpa using c50b0)
                 ·rw [if_neg c63] at H
                  have c63b0 : (x6_2 == (wrap64 ((t344.length : Int) - 1))) = false := beq_eq_false_iff_ne.mpr c63
                  have c63b1 : (x6_2 != (wrap64 ((t344.length : Int) - 1))) = true := bne_iff_ne.mpr c63
                  have H' := Aside0.mk H
                  clear H
                  try go_wp2
                  replace HO_3 := am (Kd.R_drew HO_3.out)
                  replace HO_348003 := am (Kd.R_drew HO_348003.out)
                  replace BK340 := am (blk_drew BK340.out)
                  replace BK347 := am (blk_drew BK347.out)
                  replace HB := am (below_drew1 HB.out)
                  have p355 : 0 ≤ (x6_2 : Int) := of_decide_eq_true (by first | (with_reducible assumption) | assumption)
                  have q355 : x6_2 < (t344.length : Int) := of_decide_eq_true (by first | (with_reducible assumption) | assumption)
                  obtain ⟨ad355, e355, hx355_0, hx355_1⟩ := at_T33 (Kd.R_reads' HO_348003.out).2.2 x6_2 p355 q355
                  cases e355
                  replace p355 := eq_true p355
                  replace q355 := eq_true q355
                  refine start_ (n := 11) (S := fun w' => w'.cell? ⟨gb347, 0, none⟩ = some (.int .i64 t341) ∧ w'.cell? ⟨gb347, 1, none⟩ = some (.int .i64 t342) ∧ w'.cell? ⟨gb347, 2, none⟩ = some (.int .i64 t343) ∧ w'.cell? ⟨gb347, 3, none⟩ = some (.slice (some ad355) t344.length co20) ∧ w'.cell? ⟨gb340, 0, none⟩ = some (.int .i64 t337) ∧ w'.cell? ⟨gb340, 1, none⟩ = some (.int .i64 t338) ∧ w'.cell? ⟨gb340, 2, none⟩ = some (.int .i64 t339) ∧ w'.cell? (ad355.add ((x6_2).toNat * 2)) = some (.int .i64 ((rd_T33 t344 x6_2).f0)) ∧ w'.cell? ⟨(ad355.add ((x6_2).toNat * 2)).block, (ad355.add ((x6_2).toNat * 2)).off + 1, none⟩ = some (.int .i64 ((rd_T33 t344 x6_2).f1))) (ds := []) #[z,z,z,z,z,z,z,z,z,z,z] (by kernel_rfl) rfl rfl ⟨(blk_cell BK347.out 0).trans rfl, (blk_cell BK347.out 1).trans rfl, (blk_cell BK347.out 2).trans rfl, (blk_cell BK347.out 3).trans rfl, (blk_cell BK340.out 0).trans rfl, (blk_cell BK340.out 1).trans rfl, (blk_cell BK340.out 2).trans rfl, hx355_0, hx355_1⟩ (fun hHeld => ?_); refine with_tabW laws_FnFollowed.tab19 laws_FnFollowed.bits19 (fun HT_ HW_ => ?_)
                  generalize wr.drew = w70 at HO_3 HO_348003 BK340 BK347 HB hx355_0 hx355_1 hHeld ⊢
                  refine pure_ (i := 0) (N := some 86) (v := ?_) (a' := ?_) #[o,z,z,z,z,z,z,z,z,z,z] rfl rfl (any_of HT_.out (by kernel_rfl)) (fun _ _ _ h => h) (Or.inl ⟨by rfl, ?_⟩) ?_ ?_
                  rotate_left
                  ·intro w'
                   go_simp
                   with_reducible rfl
                  rotate_left
                  ·simp only [Act.put, List.setIfInBounds_toArray, List.set_cons_zero, List.set_cons_succ, i64_w, i32_w]
                   rfl
                  refine pure_ (i := 1) (N := some 87) (v := ?_) (a' := ?_) #[o,o,z,z,z,z,z,z,z,z,z] rfl rfl (any_of HT_.out (by kernel_rfl)) (fun _ _ _ h => h) (Or.inl ⟨by rfl, ?_⟩) ?_ ?_
                  rotate_left
                  ·intro w'
                   go_simp
                   with_reducible rfl
                  rotate_left
                  ·simp only [Act.put, List.setIfInBounds_toArray, List.set_cons_zero, List.set_cons_succ, i64_w, i32_w]
                   rfl
                  refine pure_ (i := 3) (N := some 89) (v := ?_) (a' := ?_) #[o,o,z,o,z,z,z,z,z,z,z] rfl rfl (any_of HT_.out (by kernel_rfl)) (fun _ _ _ h => h) (Or.inl ⟨by rfl, ?_⟩) ?_ ?_
                  rotate_left
                  ·intro w'
                   go_simp
                   with_reducible rfl
                  rotate_left
                  ·simp only [Act.put, List.setIfInBounds_toArray, List.set_cons_zero, List.set_cons_succ, i64_w, i32_w]
                   rfl
                  refine pure_ (i := 6) (N := some 92) (v := ?_) (a' := ?_) #[o,o,z,o,z,z,o,z,z,z,z] rfl rfl (any_of HT_.out (by kernel_rfl)) (fun _ _ _ h => h) (Or.inl ⟨by rfl, ?_⟩) ?_ ?_
                  rotate_left
                  ·intro w'
                   go_simp
                   with_reducible rfl
                  rotate_left
                  ·simp only [Act.put, List.setIfInBounds_toArray, List.set_cons_zero, List.set_cons_succ, i64_w, i32_w]
                   rfl
                  refine take_ (i := 2) (N := some 88) (v := ?_) (a' := ?_) #[o,o,o,o,z,z,o,z,z,z,z] rfl rfl (take_ofW HT_.out HW_.out (by kernel_rfl)) (fun _ _ _ h => h) (Or.inl ⟨by rfl, ?_⟩) hHeld ?_ ?_
                  rotate_left
                  ·rintro w' ⟨s0, s1, s2, s3, s4, s5, s6, s7, s8⟩
                   go_simp
                   with_reducible rfl
                  rotate_left
                  ·simp only [Act.put, List.setIfInBounds_toArray, List.set_cons_zero, List.set_cons_succ, i64_w, i32_w]
                   rfl
                  refine pure_ (i := 4) (N := some 90) (v := ?_) (a' := ?_) #[o,o,o,o,o,z,o,z,z,z,z] rfl rfl (any_of HT_.out (by kernel_rfl)) (fun _ _ _ h => h) (Or.inl ⟨by rfl, ?_⟩) ?_ ?_
                  rotate_left
                  ·intro w'
                   go_simp
                   with_reducible rfl
                  rotate_left
                  ·simp only [Act.put, List.setIfInBounds_toArray, List.set_cons_zero, List.set_cons_succ, i64_w, i32_w]
                   rfl
                  refine take_ (i := 5) (N := some 91) (v := ?_) (a' := ?_) #[o,o,o,o,o,o,o,z,z,z,z] rfl rfl (take_ofW HT_.out HW_.out (by kernel_rfl)) (fun _ _ _ h => h) (Or.inl ⟨by rfl, ?_⟩) hHeld ?_ ?_
                  rotate_left
                  ·rintro w' ⟨s0, s1, s2, s3, s4, s5, s6, s7, s8⟩
                   go_simp
                   with_reducible rfl
                  rotate_left
                  ·simp only [Act.put, List.setIfInBounds_toArray, List.set_cons_zero, List.set_cons_succ, i64_w, i32_w]
                   rfl
                  refine take_ (i := 7) (N := some 93) (v := ?_) (a' := ?_) #[o,o,o,o,o,o,o,o,z,z,z] rfl rfl (take_ofW HT_.out HW_.out (by kernel_rfl)) (fun _ _ _ h => h) (Or.inl ⟨by rfl, ?_⟩) hHeld ?_ ?_
                  rotate_left
                  ·rintro w' ⟨s0, s1, s2, s3, s4, s5, s6, s7, s8⟩
                   go_simp
                   with_reducible rfl
                  rotate_left
                  ·simp only [Act.put, List.setIfInBounds_toArray, List.set_cons_zero, List.set_cons_succ, i64_w, i32_w]
                   rfl
                  refine pure_ (i := 8) (N := some 94) (v := ?_) (a' := ?_) #[o,o,o,o,o,o,o,o,o,z,z] rfl rfl (any_of HT_.out (by kernel_rfl)) (fun _ _ _ h => h) (Or.inl ⟨by rfl, ?_⟩) ?_ ?_
                  rotate_left
                  ·intro w'
                   go_simp
                   with_reducible rfl
                  rotate_left
                  ·simp only [Act.put, List.setIfInBounds_toArray, List.set_cons_zero, List.set_cons_succ, i64_w, i32_w]
                   rfl
                  refine one_ (i := 9) (N := some 95) #[o,o,o,o,o,o,o,o,o,o,z] rfl rfl (one_of HT_.out (by kernel_rfl)) (by decide) (fun K hK => ?_)
                  refine goes_ Try.func82 (by kernel_rfl) rfl #[.slice Ao15 t334.length co15, .agg #[.int .i64 ((rd_T33 t344 x6_2).f0), .int .i64 ((rd_T33 t344 x6_2).f1), .int .i64 t339]] (by rfl) rfl rfl (by (try simp only [List.map_toArray, List.map_cons, List.map_nil]); first | done | rfl | (simp only [List.length_drop, List.length_take]; rfl)) ?_
                  with_reducible refine (impl_ActionFor.calls k3 _ _ t334 ((rd_T33 t344 x6_2).f0) ((rd_T33 t344 x6_2).f1) t339 t356 _ ?side1 ?side2 A49.out).mono ?_
                  (case side1 => exact cB ((Kd.R_reads' HO_3.out).2.2))
                  (case side2 => exact (Kd.R_reads' HO_3.out).2.1)
                  rintro e w71 ⟨rfl, hb⟩
                  have HS7_ := (hb.cell (World.block_lt_of_cell? _ _ (hHeld.2.2.2.2.2.2.2.1))).trans (hHeld.2.2.2.2.2.2.2.1)
                  have HS8_ := (hb.cell (World.block_lt_of_cell? _ _ (hHeld.2.2.2.2.2.2.2.2))).trans (hHeld.2.2.2.2.2.2.2.2)
                  refine ⟨_, rfl, ?_⟩
                  replace HO_3 := am (Kd.R_below (rB HO_3.out) hb)
                  replace HO_348003 := am (Kd.R_below (rB HO_348003.out) hb)
                  replace BK340 := am (blk_below (bB BK340.out) hb)
                  replace BK347 := am (blk_below (bB BK347.out) hb)
                  replace HB := am (below_step (sB HB.out) hb)
                  (try clear hb)
                  (try clear hb2)
                  (try clear hk)
                  (try clear hi)
                  refine hK.out _ _ ⟨(blk_cell BK347.out 0).trans rfl, (blk_cell BK347.out 1).trans rfl, (blk_cell BK347.out 2).trans rfl, (blk_cell BK347.out 3).trans rfl, (blk_cell BK340.out 0).trans rfl, (blk_cell BK340.out 1).trans rfl, (blk_cell BK340.out 2).trans rfl, HS7_, HS8_⟩ (fun hHeld => ?_)
                  clear hK K
                  refine norm_ (a' := ?_) ?_ ?_
                  rotate_left
                  ·show Act.put _ (some 95) _ = _
                   simp only [Act.put, List.setIfInBounds_toArray, List.set_cons_zero, List.set_cons_succ, i64_w, i32_w]
                   rfl
                  refine pure_ (i := 10) (N := some 8) (v := ?_) (a' := ?_) #[o,o,o,o,o,o,o,o,o,o,o] rfl rfl (any_of HT_.out (by kernel_rfl)) (fun _ _ _ h => h) (Or.inl ⟨by rfl, ?_⟩) ?_ ?_
                  rotate_left
                  ·intro w'
                   go_simp
                   with_reducible rfl
                  rotate_left
                  ·simp only [Act.put, List.setIfInBounds_toArray, List.set_cons_zero, List.set_cons_succ, i64_w, i32_w]
                   rfl
                  refine done_ (done_of HT_.out (by kernel_rfl)) ?_
                  have hnb72 := NB347_340.out
                  have hnc72 := NB340_347.out
                  have hcz73_0 : w71.cell? ⟨gb347, 0, none⟩ = some (.int .i64 t341) := (blk_cell BK347.out 0).trans rfl
                  have hcz73_1 : w71.cell? ⟨gb347, 1, none⟩ = some (.int .i64 t342) := (blk_cell BK347.out 1).trans rfl
                  have hcz73_2 : w71.cell? ⟨gb347, 2, none⟩ = some (.int .i64 t343) := (blk_cell BK347.out 2).trans rfl
                  have hcz73_3 : w71.cell? ⟨gb347, 3, none⟩ = some (.slice (some ad355) t344.length co20) := (blk_cell BK347.out 3).trans rfl
                  have hfz73_0 := blk_frozen BK347.out 0
                  have hfz73_1 := blk_frozen BK347.out 1
                  have hfz73_2 := blk_frozen BK347.out 2
                  have hfz73_3 := blk_frozen BK347.out 3
                  try go_wp2
                  go_roundg k3
                  case measure => have := HJ10.out; have := HK2.out; have := HK3.out; omega
                  case rel => exact ⟨(wrap64 (x6_2 + 1)), (by first | rfl | (simp; done) | (simp [*]; done)), H', ⟨by have := HJ10.out; have := HK2.out; have := HK3.out; omega⟩, ⟨by (with_reducible repeat (first | apply Kd.R_alloc | apply Kd.R_drewN | apply Kd.R_drew)); exact HO_3.out⟩, ⟨by (with_reducible repeat (first | apply Kd.R_alloc | apply Kd.R_drewN | apply Kd.R_drew)); exact HO_348003.out⟩, ⟨bB BK340.out⟩, ⟨bB BK347.out⟩, ⟨sB HB.out⟩⟩
                ·rw [if_neg c62] at H
                 have c62b0 : (t356 == 3) = false := beq_eq_false_iff_ne.mpr c62
                 have c62b1 : (t356 != 3) = true := bne_iff_ne.mpr c62
                 exact absurd ((Option.some.inj H).trans HRT.out) (by decide)
              ·rw [if_neg c48] at H
               exact absurd H (by simp)
             ·rw [if_neg c47] at H
              exact absurd H (by simp)
         ·rw [if_neg c37] at H
          have c37b0 : decide (x6_2 < (t344.length : Int)) = false := decide_eq_false c37
          clear c37
          replace H := Option.bind_eq_some_iff.mp H
          obtain ⟨t357, A740, H⟩ := H
          replace H : (if t341 = 1 then (if (t357 == true) = true then ((impl_LoopsFrom.f k2 t334 t337).bind fun t358 => ((laws_contains.f k2 t358 (wrap64 (t338 + (wrap64 (10 * (wrap64 (t339 - 1))))))).bind fun t361 => (if (t361 == (t341 == 3)) = true then ((impl_FollowRequest.f k2 t334 t337 t338 t339).bind fun bt362 => ((impl_EqualOutcomes.f k2 t341 t342 t343 t344 bt362.1 bt362.2.1 bt362.2.2.1 bt362.2.2.2).bind fun t368 => (some t368))) else (some false)))) else (some false)) else (if (t357 == (t341 == 2)) = true then ((impl_LoopsFrom.f k2 t334 t337).bind fun t369 => ((laws_contains.f k2 t369 (wrap64 (t338 + (wrap64 (10 * (wrap64 (t339 - 1))))))).bind fun t372 => (if (t372 == (t341 == 3)) = true then ((impl_FollowRequest.f k2 t334 t337 t338 t339).bind fun bt373 => ((impl_EqualOutcomes.f k2 t341 t342 t343 t344 bt373.1 bt373.2.1 bt373.2.2.1 bt373.2.2.2).bind fun t379 => (some t379))) else (some false)))) else (some false))) = some r := H
          have A74 := Aside0.mk A740
          clear A740
          by_cases c75 : t341 = 1
          ·rw [if_pos c75] at H
           have c75b0 : (t341 == 1) = true := beq_iff_eq.mpr c75
           have c75b1 : (t341 != 1) = false := bne_eq_false_iff_eq.mpr c75
           clear c75
           by_cases c76 : (t357 == true) = true
           ·rw [if_pos c76] at H
            have c76b0 : (t357 == true) = true := c76
            (try (have c76b1 : decide (t357 = true) = true := by simpa using c76))
            (try (have c76b2 : (t357 == true) = true := by simpa using c76))
            clear c76
            replace H := Option.bind_eq_some_iff.mp H
            obtain ⟨t358, A770, H⟩ := H
            replace H : ((laws_contains.f k2 t358 (wrap64 (t338 + (wrap64 (10 * (wrap64 (t339 - 1))))))).bind fun t361 => (if (t361 == (t341 == 3)) = true then ((impl_FollowRequest.f k2 t334 t337 t338 t339).bind fun bt362 => ((impl_EqualOutcomes.f k2 t341 t342 t343 t344 bt362.1 bt362.2.1 bt362.2.2.1 bt362.2.2.2).bind fun t368 => (some t368))) else (some false))) = some r := H
            have A77 := Aside0.mk A770
            clear A770
            replace H := Option.bind_eq_some_iff.mp H
            obtain ⟨t361, A780, H⟩ := H
            replace H : (if (t361 == (t341 == 3)) = true then ((impl_FollowRequest.f k2 t334 t337 t338 t339).bind fun bt362 => ((impl_EqualOutcomes.f k2 t341 t342 t343 t344 bt362.1 bt362.2.1 bt362.2.2.1 bt362.2.2.2).bind fun t368 => (some t368))) else (some false)) = some r := H
            have A78 := Aside0.mk A780
            clear A780
            by_cases c79 : (t361 == (t341 == 3)) = true
            ·rw [if_pos c79] at H
             have c79b0 : (t361 == (t341 == 3)) = true := c79
             (try (have c79b1 : decide (t361 = (t341 == 3)) = true := by simpa using c79))
             (try (have c79b2 : (t361 == (t341 == 3)) = true := by simpa using c79))
             clear c79
             replace H := Option.bind_eq_some_iff.mp H
             obtain ⟨⟨t362, t363, t364, t365⟩, A800, H⟩ := H
             replace H : ((impl_EqualOutcomes.f k2 t341 t342 t343 t344 t362 t363 t364 t365).bind fun t368 => (some t368)) = some r := H
             have A80 := Aside0.mk A800
             clear A800
             replace H := Option.bind_eq_some_iff.mp H
             obtain ⟨t368, A810, H⟩ := H
             replace H : (some t368) = some r := H
             have A81 := Aside0.mk A810
             clear A810
             obtain rfl := Option.some.inj H
             have hnb82 := NB347_340.out
             have hnc82 := NB340_347.out
             have hcz83_0 : wr.cell? ⟨gb347, 0, none⟩ = some (.int .i64 t341) := (blk_cell BK347.out 0).trans rfl
             have hcz83_1 : wr.cell? ⟨gb347, 1, none⟩ = some (.int .i64 t342) := (blk_cell BK347.out 1).trans rfl
             have hcz83_2 : wr.cell? ⟨gb347, 2, none⟩ = some (.int .i64 t343) := (blk_cell BK347.out 2).trans rfl
             have hcz83_3 : wr.cell? ⟨gb347, 3, none⟩ = some (.slice Ao20 t344.length co20) := (blk_cell BK347.out 3).trans rfl
             have hfz83_0 := blk_frozen BK347.out 0
             have hfz83_1 := blk_frozen BK347.out 1
             have hfz83_2 := blk_frozen BK347.out 2
             have hfz83_3 := blk_frozen BK347.out 3
             have hcz84_0 : wr.cell? ⟨gb340, 0, none⟩ = some (.int .i64 t337) := (blk_cell BK340.out 0).trans rfl
             have hcz84_1 : wr.cell? ⟨gb340, 1, none⟩ = some (.int .i64 t338) := (blk_cell BK340.out 1).trans rfl
             have hcz84_2 : wr.cell? ⟨gb340, 2, none⟩ = some (.int .i64 t339) := (blk_cell BK340.out 2).trans rfl
             have hfz84_0 := blk_frozen BK340.out 0
             have hfz84_1 := blk_frozen BK340.out 1
             have hfz84_2 := blk_frozen BK340.out 2
             try go_wp2
             replace HO_3 := am (Kd.R_drew HO_3.out)
             replace HO_348003 := am (Kd.R_drew HO_348003.out)
             replace BK340 := am (blk_drew BK340.out)
             replace BK347 := am (blk_drew BK347.out)
             replace HB := am (below_drew1 HB.out)
             refine start_ (n := 33) (S := fun w' => w'.cell? ⟨gb340, 0, none⟩ = some (.int .i64 t337) ∧ w'.cell? ⟨gb340, 1, none⟩ = some (.int .i64 t338) ∧ w'.cell? ⟨gb340, 2, none⟩ = some (.int .i64 t339) ∧ w'.cell? ⟨gb347, 0, none⟩ = some (.int .i64 t341) ∧ w'.cell? ⟨gb347, 1, none⟩ = some (.int .i64 t342) ∧ w'.cell? ⟨gb347, 2, none⟩ = some (.int .i64 t343) ∧ w'.cell? ⟨gb347, 3, none⟩ = some (.slice Ao20 t344.length co20)) (ds := []) #[z,z,z,z,z,z,z,z,z,z,z,z,z,z,z,z,z,z,z,z,z,z,z,z,z,z,z,z,z,z,z,z,z] (by kernel_rfl) rfl rfl ⟨(blk_cell BK340.out 0).trans rfl, (blk_cell BK340.out 1).trans rfl, (blk_cell BK340.out 2).trans rfl, (blk_cell BK347.out 0).trans rfl, (blk_cell BK347.out 1).trans rfl, (blk_cell BK347.out 2).trans rfl, (blk_cell BK347.out 3).trans rfl⟩ (fun hHeld => ?_); refine with_tabW laws_FnFollowed.tab24 laws_FnFollowed.bits24 (fun HT_ HW_ => ?_)
             generalize wr.drew = w85 at HO_3 HO_348003 BK340 BK347 HB hHeld ⊢
             refine pure_ (i := 0) (N := some 138) (v := ?_) (a' := ?_) #[o,z,z,z,z,z,z,z,z,z,z,z,z,z,z,z,z,z,z,z,z,z,z,z,z,z,z,z,z,z,z,z,z] rfl rfl (any_of HT_.out (by kernel_rfl)) (fun _ _ _ h => h) (Or.inl ⟨by rfl, ?_⟩) ?_ ?_
             rotate_left
             ·intro w'
              go_simp
              with_reducible rfl
             rotate_left
             ·simp only [Act.put, List.setIfInBounds_toArray, List.set_cons_zero, List.set_cons_succ, i64_w, i32_w]
              rfl
             refine pure_ (i := 3) (N := some 141) (v := ?_) (a' := ?_) #[o,z,z,o,z,z,z,z,z,z,z,z,z,z,z,z,z,z,z,z,z,z,z,z,z,z,z,z,z,z,z,z,z] rfl rfl (any_of HT_.out (by kernel_rfl)) (fun _ _ _ h => h) (Or.inl ⟨by rfl, ?_⟩) ?_ ?_
             rotate_left
             ·intro w'
              go_simp
              with_reducible rfl
             rotate_left
             ·simp only [Act.put, List.setIfInBounds_toArray, List.set_cons_zero, List.set_cons_succ, i64_w, i32_w]
              rfl
             refine take_ (i := 1) (N := some 139) (v := ?_) (a' := ?_) #[o,o,z,o,z,z,z,z,z,z,z,z,z,z,z,z,z,z,z,z,z,z,z,z,z,z,z,z,z,z,z,z,z] rfl rfl (take_ofW HT_.out HW_.out (by kernel_rfl)) (fun _ _ _ h => h) (Or.inl ⟨by rfl, ?_⟩) hHeld ?_ ?_
             rotate_left
             ·rintro w' ⟨s0, s1, s2, s3, s4, s5, s6⟩
              go_simp
              with_reducible rfl
             rotate_left
             ·simp only [Act.put, List.setIfInBounds_toArray, List.set_cons_zero, List.set_cons_succ, i64_w, i32_w]
              rfl
             refine take_ (i := 4) (N := some 142) (v := ?_) (a' := ?_) #[o,o,z,o,o,z,z,z,z,z,z,z,z,z,z,z,z,z,z,z,z,z,z,z,z,z,z,z,z,z,z,z,z] rfl rfl (take_ofW HT_.out HW_.out (by kernel_rfl)) (fun _ _ _ h => h) (Or.inl ⟨by rfl, ?_⟩) hHeld ?_ ?_
             rotate_left
             ·rintro w' ⟨s0, s1, s2, s3, s4, s5, s6⟩
              go_simp
              with_reducible rfl
             rotate_left
             ·simp only [Act.put, List.setIfInBounds_toArray, List.set_cons_zero, List.set_cons_succ, i64_w, i32_w]
              rfl
             refine pure_ (i := 5) (N := some 143) (v := ?_) (a' := ?_) #[o,o,z,o,o,o,z,z,z,z,z,z,z,z,z,z,z,z,z,z,z,z,z,z,z,z,z,z,z,z,z,z,z] rfl rfl (any_of HT_.out (by kernel_rfl)) (fun _ _ _ h => h) (Or.inl ⟨by rfl, ?_⟩) ?_ ?_
             rotate_left
             ·intro w'
              go_simp
              with_reducible rfl
             rotate_left
             ·simp only [Act.put, List.setIfInBounds_toArray, List.set_cons_zero, List.set_cons_succ, i64_w, i32_w]
              rfl
             refine one_ (i := 2) (N := some 140) #[o,o,o,o,o,o,z,z,z,z,z,z,z,z,z,z,z,z,z,z,z,z,z,z,z,z,z,z,z,z,z,z,z] rfl rfl (one_of HT_.out (by kernel_rfl)) (by decide) (fun K hK => ?_)
             refine goes_ Try.func68 (by kernel_rfl) rfl #[.slice Ao15 t334.length co15, .agg #[.int .i64 t337, .int .i64 t338, .int .i64 t339]] (by rfl) rfl rfl (by (try simp only [List.map_toArray, List.map_cons, List.map_nil]); first | done | rfl | (simp only [List.length_drop, List.length_take]; rfl)) ?_
             with_reducible refine (impl_IsSettled.calls k2 _ _ t334 t337 t338 t339 t357 _ ?side1 ?side2 A74.out).mono ?_
             (case side1 => exact cB ((Kd.R_reads' HO_3.out).2.2))
             (case side2 => exact (Kd.R_reads' HO_3.out).2.1)
             rintro e w86 ⟨rfl, hb⟩
             refine ⟨_, rfl, ?_⟩
             replace HO_3 := am (Kd.R_below (rB HO_3.out) hb)
             replace HO_348003 := am (Kd.R_below (rB HO_348003.out) hb)
             replace BK340 := am (blk_below (bB BK340.out) hb)
             replace BK347 := am (blk_below (bB BK347.out) hb)
             replace HB := am (below_step (sB HB.out) hb)
             (try clear hb)
             (try clear hb2)
             (try clear hk)
             (try clear hi)
             refine hK.out _ _ ⟨(blk_cell BK340.out 0).trans rfl, (blk_cell BK340.out 1).trans rfl, (blk_cell BK340.out 2).trans rfl, (blk_cell BK347.out 0).trans rfl, (blk_cell BK347.out 1).trans rfl, (blk_cell BK347.out 2).trans rfl, (blk_cell BK347.out 3).trans rfl⟩ (fun hHeld => ?_)
             clear hK K
             refine norm_ (a' := ?_) ?_ ?_
             rotate_left
             ·show Act.put _ (some 140) _ = _
              simp only [Act.put, List.setIfInBounds_toArray, List.set_cons_zero, List.set_cons_succ, i64_w, i32_w]
              rfl
             refine pure_ (i := 6) (N := some 144) (v := ?_) (a' := ?_) #[o,o,o,o,o,o,o,z,z,z,z,z,z,z,z,z,z,z,z,z,z,z,z,z,z,z,z,z,z,z,z,z,z] rfl rfl (any_of HT_.out (by kernel_rfl)) (fun _ _ _ h => h) (Or.inl ⟨by rfl, ?_⟩) ?_ ?_
             rotate_left
             ·intro w'
              go_simp
              with_reducible rfl
             rotate_left
             ·simp only [Act.put, List.setIfInBounds_toArray, List.set_cons_zero, List.set_cons_succ, i64_w, i32_w]
              rfl
             refine pure_ (i := 7) (N := some 145) (v := undef) (a' := ?_) #[o,o,o,o,o,o,o,o,z,z,z,z,z,z,z,z,z,z,z,z,z,z,z,z,z,z,z,z,z,z,z,z,z] rfl rfl (any_of HT_.out (by kernel_rfl)) (fun _ _ _ h => h) (Or.inr ⟨by rfl, rfl⟩) ?_ ?_
             rotate_left
             ·simp only [Act.put, List.setIfInBounds_toArray, List.set_cons_zero, List.set_cons_succ, i64_w, i32_w]
              rfl
             refine pure_ (i := 8) (N := some 146) (v := undef) (a' := ?_) #[o,o,o,o,o,o,o,o,o,z,z,z,z,z,z,z,z,z,z,z,z,z,z,z,z,z,z,z,z,z,z,z,z] rfl rfl (any_of HT_.out (by kernel_rfl)) (fun _ _ _ h => h) (Or.inr ⟨by rfl, rfl⟩) ?_ ?_
             rotate_left
             ·simp only [Act.put, List.setIfInBounds_toArray, List.set_cons_zero, List.set_cons_succ, i64_w, i32_w]
              rfl
             refine pure_ (i := 9) (N := some 147) (v := undef) (a' := ?_) #[o,o,o,o,o,o,o,o,o,o,z,z,z,z,z,z,z,z,z,z,z,z,z,z,z,z,z,z,z,z,z,z,z] rfl rfl (any_of HT_.out (by kernel_rfl)) (fun _ _ _ h => h) (Or.inr ⟨by rfl, rfl⟩) ?_ ?_
             rotate_left
             ·simp only [Act.put, List.setIfInBounds_toArray, List.set_cons_zero, List.set_cons_succ, i64_w, i32_w]
              rfl
             refine pure_ (i := 10) (N := some 148) (v := ?_) (a' := ?_) #[o,o,o,o,o,o,o,o,o,o,o,z,z,z,z,z,z,z,z,z,z,z,z,z,z,z,z,z,z,z,z,z,z] rfl rfl (any_of HT_.out (by kernel_rfl)) (fun _ _ _ h => h) (Or.inl ⟨by rfl, ?_⟩) ?_ ?_
             rotate_left
             ·intro w'
              go_simp
              with_reducible rfl
             rotate_left
             ·simp only [Act.put, List.setIfInBounds_toArray, List.set_cons_zero, List.set_cons_succ, i64_w, i32_w]
              rfl
             refine pure_ (i := 11) (N := some 149) (v := ?_) (a' := ?_) #[o,o,o,o,o,o,o,o,o,o,o,o,z,z,z,z,z,z,z,z,z,z,z,z,z,z,z,z,z,z,z,z,z] rfl rfl (any_of HT_.out (by kernel_rfl)) (fun _ _ _ h => h) (Or.inl ⟨by rfl, ?_⟩) ?_ ?_
             rotate_left
             ·intro w'
              go_simp
              with_reducible rfl
             rotate_left
             ·simp only [Act.put, List.setIfInBounds_toArray, List.set_cons_zero, List.set_cons_succ, i64_w, i32_w]
              rfl
             refine pure_ (i := 12) (N := some 150) (v := ?_) (a' := ?_) #[o,o,o,o,o,o,o,o,o,o,o,o,o,z,z,z,z,z,z,z,z,z,z,z,z,z,z,z,z,z,z,z,z] rfl rfl (any_of HT_.out (by kernel_rfl)) (fun _ _ _ h => h) (Or.inl ⟨by rfl, ?_⟩) ?_ ?_
             rotate_left
             ·intro w'
              go_simp
              with_reducible rfl
             rotate_left
             ·simp only [Act.put, List.setIfInBounds_toArray, List.set_cons_zero, List.set_cons_succ, i64_w, i32_w]
              rfl
             refine pure_ (i := 13) (N := some 151) (v := ?_) (a' := ?_) #[o,o,o,o,o,o,o,o,o,o,o,o,o,o,z,z,z,z,z,z,z,z,z,z,z,z,z,z,z,z,z,z,z] rfl rfl (any_of HT_.out (by kernel_rfl)) (fun _ _ _ h => h) (Or.inl ⟨by rfl, ?_⟩) ?_ ?_
             rotate_left
             ·intro w'
              go_simp
              with_reducible rfl
             rotate_left
             ·simp only [Act.put, List.setIfInBounds_toArray, List.set_cons_zero, List.set_cons_succ, i64_w, i32_w]
              rfl
             refine pure_ (i := 14) (N := some 152) (v := ?_) (a' := ?_) #[o,o,o,o,o,o,o,o,o,o,o,o,o,o,o,z,z,z,z,z,z,z,z,z,z,z,z,z,z,z,z,z,z] rfl rfl (any_of HT_.out (by kernel_rfl)) (fun _ _ _ h => h) (Or.inl ⟨by rfl, ?_⟩) ?_ ?_
             rotate_left
             ·intro w'
              go_simp
              with_reducible rfl
             rotate_left
             ·simp only [Act.put, List.setIfInBounds_toArray, List.set_cons_zero, List.set_cons_succ, i64_w, i32_w]
              rfl
             refine pure_ (i := 15) (N := some 153) (v := ?_) (a' := ?_) #[o,o,o,o,o,o,o,o,o,o,o,o,o,o,o,o,z,z,z,z,z,z,z,z,z,z,z,z,z,z,z,z,z] rfl rfl (any_of HT_.out (by kernel_rfl)) (fun _ _ _ h => h) (Or.inl ⟨by rfl, ?_⟩) ?_ ?_
             rotate_left
             ·intro w'
              go_simp
              with_reducible rfl
             rotate_left
             ·simp only [Act.put, List.setIfInBounds_toArray, List.set_cons_zero, List.set_cons_succ, i64_w, i32_w]
              rfl
             refine pure_ (i := 18) (N := some 156) (v := ?_) (a' := ?_) #[o,o,o,o,o,o,o,o,o,o,o,o,o,o,o,o,z,z,o,z,z,z,z,z,z,z,z,z,z,z,z,z,z] rfl rfl (any_of HT_.out (by kernel_rfl)) (fun _ _ _ h => h) (Or.inl ⟨by rfl, ?_⟩) ?_ ?_
             rotate_left
             ·intro w'
              go_simp
              with_reducible rfl
             rotate_left
             ·simp only [Act.put, List.setIfInBounds_toArray, List.set_cons_zero, List.set_cons_succ, i64_w, i32_w]
              rfl
             refine pure_ (i := 20) (N := some 158) (v := ?_) (a' := ?_) #[o,o,o,o,o,o,o,o,o,o,o,o,o,o,o,o,z,z,o,z,o,z,z,z,z,z,z,z,z,z,z,z,z] rfl rfl (any_of HT_.out (by kernel_rfl)) (fun _ _ _ h => h) (Or.inl ⟨by rfl, ?_⟩) ?_ ?_
             rotate_left
             ·intro w'
              go_simp
              with_reducible rfl
             rotate_left
             ·simp only [Act.put, List.setIfInBounds_toArray, List.set_cons_zero, List.set_cons_succ, i64_w, i32_w]
              rfl
             refine take_ (i := 16) (N := some 154) (v := ?_) (a' := ?_) #[o,o,o,o,o,o,o,o,o,o,o,o,o,o,o,o,o,z,o,z,o,z,z,z,z,z,z,z,z,z,z,z,z] rfl rfl (take_ofW HT_.out HW_.out (by kernel_rfl)) (fun _ _ _ h => h) (Or.inl ⟨by rfl, ?_⟩) hHeld ?_ ?_
             rotate_left
             ·rintro w' ⟨s0, s1, s2, s3, s4, s5, s6⟩
              go_simp
              with_reducible rfl
             rotate_left
             ·simp only [Act.put, List.setIfInBounds_toArray, List.set_cons_zero, List.set_cons_succ, i64_w, i32_w]
              rfl
             refine take_ (i := 21) (N := some 159) (v := ?_) (a' := ?_) #[o,o,o,o,o,o,o,o,o,o,o,o,o,o,o,o,o,z,o,z,o,o,z,z,z,z,z,z,z,z,z,z,z] rfl rfl (take_ofW HT_.out HW_.out (by kernel_rfl)) (fun _ _ _ h => h) (Or.inl ⟨by rfl, ?_⟩) hHeld ?_ ?_
             rotate_left
             ·rintro w' ⟨s0, s1, s2, s3, s4, s5, s6⟩
              go_simp
              with_reducible rfl
             rotate_left
             ·simp only [Act.put, List.setIfInBounds_toArray, List.set_cons_zero, List.set_cons_succ, i64_w, i32_w]
              rfl
             refine pure_ (i := 22) (N := some 160) (v := ?_) (a' := ?_) #[o,o,o,o,o,o,o,o,o,o,o,o,o,o,o,o,o,z,o,z,o,o,o,z,z,z,z,z,z,z,z,z,z] rfl rfl (any_of HT_.out (by kernel_rfl)) (fun _ _ _ h => h) (Or.inl ⟨by rfl, ?_⟩) ?_ ?_
             rotate_left
             ·intro w'
              go_simp
              with_reducible rfl
             rotate_left
             ·simp only [Act.put, List.setIfInBounds_toArray, List.set_cons_zero, List.set_cons_succ, i64_w, i32_w]
              rfl
             refine one_ (i := 17) (N := some 155) #[o,o,o,o,o,o,o,o,o,o,o,o,o,o,o,o,o,o,o,z,o,o,o,z,z,z,z,z,z,z,z,z,z] rfl rfl (one_of HT_.out (by kernel_rfl)) (by decide) (fun K hK => ?_)
             refine goes_ Try.func70 (by kernel_rfl) rfl #[.slice Ao15 t334.length co15, .int .i64 t337] (by rfl) rfl rfl (by (try simp only [List.map_toArray, List.map_cons, List.map_nil]); first | done | rfl | (simp only [List.length_drop, List.length_take]; rfl)) ?_
             with_reducible refine (impl_LoopsFrom.calls k2 _ _ t334 t337 t358 _ ?side1 ?side2 A77.out).mono ?_
             (case side1 => exact cB ((Kd.R_reads' HO_3.out).2.2))
             (case side2 => exact (Kd.R_reads' HO_3.out).2.1)
             rintro e w87 ⟨v359, rfl, ho0, hb⟩
             refine ⟨_, rfl, ?_⟩
             have n0_ := am (Kd.R_below (rB HO_3.out) hb)
             have n1_ := am (Kd.R_below (rB HO_348003.out) hb)
             have n2_ := am (Kd.R_lower ho0 (below_size (sB HB.out)))
             have n3_ := am (blk_below (bB BK340.out) hb)
             have n4_ := am (blk_below (bB BK347.out) hb)
             have n5_ := am (below_step (sB HB.out) hb)
             clear HO_3
             clear HO_348003
             clear BK340
             clear BK347
             clear HB
             have HO_3 := n0_
             have HO_348003 := n1_
             have HO360 := n2_
             have BK340 := n3_
             have BK347 := n4_
             have HB := n5_
             clear n0_ n1_ n2_ n3_ n4_ n5_
             (try clear hb)
             (try clear hb2)
             (try clear hk)
             (try clear hi)
             (try clear ho0)
             obtain ⟨Ao88, co88, eo88⟩ := Kd.R_slice HO360.out
             (first | subst eo88 | (injection eo88 with f1_ f2_ f3_; have f4_ := f1_.symm; have f5_ := f3_.symm; clear f1_ f2_ f3_; subst f4_; subst f5_))
             refine hK.out _ _ ⟨(blk_cell BK340.out 0).trans rfl, (blk_cell BK340.out 1).trans rfl, (blk_cell BK340.out 2).trans rfl, (blk_cell BK347.out 0).trans rfl, (blk_cell BK347.out 1).trans rfl, (blk_cell BK347.out 2).trans rfl, (blk_cell BK347.out 3).trans rfl⟩ (fun hHeld => ?_)
             clear hK K
             refine norm_ (a' := ?_) ?_ ?_
             rotate_left
             ·show Act.put _ (some 155) _ = _
              simp only [Act.put, List.setIfInBounds_toArray, List.set_cons_zero, List.set_cons_succ, i64_w, i32_w]
              rfl
             refine one_ (i := 19) (N := some 157) #[o,o,o,o,o,o,o,o,o,o,o,o,o,o,o,o,o,o,o,o,o,o,o,z,z,z,z,z,z,z,z,z,z] rfl rfl (one_of HT_.out (by kernel_rfl)) (by decide) (fun K hK => ?_)
             refine goes_ Try.func83 (by kernel_rfl) rfl #[.slice Ao88 t358.length co88, .int .i64 (wrap64 (t338 + (wrap64 (10 * (wrap64 (t339 - 1))))))] (by rfl) rfl rfl (by (try simp only [List.map_toArray, List.map_cons, List.map_nil]); first | done | rfl | (simp only [List.length_drop, List.length_take]; rfl)) ?_
             with_reducible refine (laws_contains.calls k2 _ _ t358 (wrap64 (t338 + (wrap64 (10 * (wrap64 (t339 - 1)))))) t361 _ ?side1 ?side2 A78.out).mono ?_
             (case side1 => exact cB ((Kd.R_reads' HO360.out).2.2))
             (case side2 => exact (Kd.R_reads' HO360.out).2.1)
             rintro e w' ⟨rfl, ⟨nd, rfl⟩⟩
             refine ⟨_, rfl, ?_⟩
             replace BK340 := am (blk_drewN BK340.out nd)
             replace BK347 := am (blk_drewN BK347.out nd)
             refine hK.out _ _ ⟨(blk_cell BK340.out 0).trans rfl, (blk_cell BK340.out 1).trans rfl, (blk_cell BK340.out 2).trans rfl, (blk_cell BK347.out 0).trans rfl, (blk_cell BK347.out 1).trans rfl, (blk_cell BK347.out 2).trans rfl, (blk_cell BK347.out 3).trans rfl⟩ (fun hHeld => ?_)
             clear hK K
             refine norm_ (a' := ?_) ?_ ?_
             rotate_left
             ·show Act.put _ (some 157) _ = _
              simp only [Act.put, List.setIfInBounds_toArray, List.set_cons_zero, List.set_cons_succ, i64_w, i32_w]
              rfl
             refine pure_ (i := 23) (N := some 161) (v := ?_) (a' := ?_) #[o,o,o,o,o,o,o,o,o,o,o,o,o,o,o,o,o,o,o,o,o,o,o,o,z,z,z,z,z,z,z,z,z] rfl rfl (any_of HT_.out (by kernel_rfl)) (fun _ _ _ h => h) (Or.inl ⟨by rfl, ?_⟩) ?_ ?_
             rotate_left
             ·intro w'
              go_simp
              with_reducible rfl
             rotate_left
             ·simp only [Act.put, List.setIfInBounds_toArray, List.set_cons_zero, List.set_cons_succ, i64_w, i32_w]
              rfl
             refine pure_ (i := 24) (N := some 162) (v := ?_) (a' := ?_) #[o,o,o,o,o,o,o,o,o,o,o,o,o,o,o,o,o,o,o,o,o,o,o,o,o,z,z,z,z,z,z,z,z] rfl rfl (any_of HT_.out (by kernel_rfl)) (fun _ _ _ h => h) (Or.inl ⟨by rfl, ?_⟩) ?_ ?_
             rotate_left
             ·intro w'
              go_simp
              with_reducible rfl
             rotate_left
             ·simp only [Act.put, List.setIfInBounds_toArray, List.set_cons_zero, List.set_cons_succ, i64_w, i32_w]
              rfl
             refine pure_ (i := 25) (N := some 163) (v := ?_) (a' := ?_) #[o,o,o,o,o,o,o,o,o,o,o,o,o,o,o,o,o,o,o,o,o,o,o,o,o,o,z,z,z,z,z,z,z] rfl rfl (any_of HT_.out (by kernel_rfl)) (fun _ _ _ h => h) (Or.inl ⟨by rfl, ?_⟩) ?_ ?_
             rotate_left
             ·intro w'
              go_simp
              with_reducible rfl
             rotate_left
             ·simp only [Act.put, List.setIfInBounds_toArray, List.set_cons_zero, List.set_cons_succ, i64_w, i32_w]
              rfl
             refine pure_ (i := 27) (N := some 165) (v := ?_) (a' := ?_) #[o,o,o,o,o,o,o,o,o,o,o,o,o,o,o,o,o,o,o,o,o,o,o,o,o,o,z,o,z,z,z,z,z] rfl rfl (any_of HT_.out (by kernel_rfl)) (fun _ _ _ h => h) (Or.inl ⟨by rfl, ?_⟩) ?_ ?_
             rotate_left
             ·intro w'
              go_simp
              with_reducible rfl
             rotate_left
             ·simp only [Act.put, List.setIfInBounds_toArray, List.set_cons_zero, List.set_cons_succ, i64_w, i32_w]
              rfl
             refine take_ (i := 26) (N := some 164) (v := ?_) (a' := ?_) #[o,o,o,o,o,o,o,o,o,o,o,o,o,o,o,o,o,o,o,o,o,o,o,o,o,o,o,o,z,z,z,z,z] rfl rfl (take_ofW HT_.out HW_.out (by kernel_rfl)) (fun _ _ _ h => h) (Or.inl ⟨by rfl, ?_⟩) hHeld ?_ ?_
             rotate_left
             ·rintro w' ⟨s0, s1, s2, s3, s4, s5, s6⟩
              go_simp
              with_reducible rfl
             rotate_left
             ·simp only [Act.put, List.setIfInBounds_toArray, List.set_cons_zero, List.set_cons_succ, i64_w, i32_w]
              rfl
             refine take_ (i := 28) (N := some 166) (v := ?_) (a' := ?_) #[o,o,o,o,o,o,o,o,o,o,o,o,o,o,o,o,o,o,o,o,o,o,o,o,o,o,o,o,o,z,z,z,z] rfl rfl (take_ofW HT_.out HW_.out (by kernel_rfl)) (fun _ _ _ h => h) (Or.inl ⟨by rfl, ?_⟩) hHeld ?_ ?_
             rotate_left
             ·rintro w' ⟨s0, s1, s2, s3, s4, s5, s6⟩
              go_simp
              with_reducible rfl
             rotate_left
             ·simp only [Act.put, List.setIfInBounds_toArray, List.set_cons_zero, List.set_cons_succ, i64_w, i32_w]
              rfl
             refine one_ (i := 29) (N := some 167) #[o,o,o,o,o,o,o,o,o,o,o,o,o,o,o,o,o,o,o,o,o,o,o,o,o,o,o,o,o,o,z,z,z] rfl rfl (one_of HT_.out (by kernel_rfl)) (by decide) (fun K hK => ?_)
             refine goes_ Try.func75 (by kernel_rfl) rfl #[.slice Ao15 t334.length co15, .agg #[.int .i64 t337, .int .i64 t338, .int .i64 t339]] (by rfl) rfl rfl (by (try simp only [List.map_toArray, List.map_cons, List.map_nil]); first | done | rfl | (simp only [List.length_drop, List.length_take]; rfl)) ?_
             with_reducible refine (impl_FollowRequest.calls k2 _ _ t334 t337 t338 t339 t362 t363 t364 t365 _ ?side1 ?side2 A80.out).mono ?_
             (case side1 => exact cB ((Kd.R_reads' HO_3.out).2.2))
             (case side2 => exact (Kd.R_reads' HO_3.out).2.1)
             rintro e w89 ⟨v366, rfl, ho0, hb⟩
             refine ⟨_, rfl, ?_⟩
             have n0_ := am (Kd.R_below (rB HO_3.out) hb)
             have n1_ := am (Kd.R_elder' (rB HO_348003.out) (Kd.R_base ho0) hb)
             have n2_ := am (Kd.R_below (rB HO360.out) hb)
             have n3_ := am (Kd.R_lower (Kd.R_new' ho0 (Kd.R_lt (rB HO_348003.out))) (below_size (sB HB.out)))
             have n4_ := am (blk_below BK340.out hb)
             have n5_ := am (blk_below BK347.out hb)
             have n6_ := am (below_step (sB HB.out) hb)
             clear HO_3
             clear HO_348003
             clear HO360
             clear BK340
             clear BK347
             clear HB
             have HO_3 := n0_
             have HO_348003 := n1_
             have HO360 := n2_
             have HO367 := n3_
             have BK340 := n4_
             have BK347 := n5_
             have HB := n6_
             clear n0_ n1_ n2_ n3_ n4_ n5_ n6_
             (try clear hb)
             (try clear hb2)
             (try clear hk)
             (try clear hi)
             (try clear ho0)
             obtain ⟨Ao90, co90, eo90⟩ := Kd.R_slice HO367.out
             (first | subst eo90 | (injection eo90 with f1_ f2_ f3_; have f4_ := f1_.symm; have f5_ := f3_.symm; clear f1_ f2_ f3_; subst f4_; subst f5_))
             refine hK.out _ _ ⟨(blk_cell BK340.out 0).trans rfl, (blk_cell BK340.out 1).trans rfl, (blk_cell BK340.out 2).trans rfl, (blk_cell BK347.out 0).trans rfl, (blk_cell BK347.out 1).trans rfl, (blk_cell BK347.out 2).trans rfl, (blk_cell BK347.out 3).trans rfl⟩ (fun hHeld => ?_)
             clear hK K
             refine norm_ (a' := ?_) ?_ ?_
             rotate_left
             ·show Act.put _ (some 167) _ = _
              simp only [Act.put, List.setIfInBounds_toArray, List.set_cons_zero, List.set_cons_succ, i64_w, i32_w]
              rfl
             refine one_ (i := 30) (N := some 168) #[o,o,o,o,o,o,o,o,o,o,o,o,o,o,o,o,o,o,o,o,o,o,o,o,o,o,o,o,o,o,o,z,z] rfl rfl (one_of HT_.out (by kernel_rfl)) (by decide) (fun K hK => ?_)
             refine goes_ Try.func84 (by kernel_rfl) rfl #[.agg #[.int .i64 t341, .int .i64 t342, .int .i64 t343, .slice Ao20 t344.length co20], .agg #[.int .i64 t362, .int .i64 t363, .int .i64 t364, .slice Ao90 t365.length co90]] (by rfl) rfl rfl (by (try simp only [List.map_toArray, List.map_cons, List.map_nil]); first | done | rfl | (simp only [List.length_drop, List.length_take]; rfl)) ?_
             with_reducible refine (impl_EqualOutcomes.calls k2 t341 t342 t343 _ _ t344 t362 t363 t364 _ _ t365 t368 _ ?side1 ?side2 ?side3 ?side4 A81.out).mono ?_
             (case side1 => exact cB ((Kd.R_reads' HO_348003.out).2.2))
             (case side2 => exact (Kd.R_reads' HO_348003.out).2.1)
             (case side3 => exact cB ((Kd.R_reads' HO367.out).2.2))
             (case side4 => exact (Kd.R_reads' HO367.out).2.1)
             rintro e w91 ⟨rfl, hb⟩
             refine ⟨_, rfl, ?_⟩
             replace HO_3 := am (Kd.R_below (rB HO_3.out) hb)
             replace HO_348003 := am (Kd.R_below (rB HO_348003.out) hb)
             replace HO360 := am (Kd.R_below (rB HO360.out) hb)
             replace HO367 := am (Kd.R_below (rB HO367.out) hb)
             replace BK340 := am (blk_below (bB BK340.out) hb)
             replace BK347 := am (blk_below (bB BK347.out) hb)
             replace HB := am (below_step (sB HB.out) hb)
             (try clear hb)
             (try clear hb2)
             (try clear hk)
             (try clear hi)
             refine hK.out _ _ ⟨(blk_cell BK340.out 0).trans rfl, (blk_cell BK340.out 1).trans rfl, (blk_cell BK340.out 2).trans rfl, (blk_cell BK347.out 0).trans rfl, (blk_cell BK347.out 1).trans rfl, (blk_cell BK347.out 2).trans rfl, (blk_cell BK347.out 3).trans rfl⟩ (fun hHeld => ?_)
             clear hK K
             refine norm_ (a' := ?_) ?_ ?_
             rotate_left
             ·show Act.put _ (some 168) _ = _
              simp only [Act.put, List.setIfInBounds_toArray, List.set_cons_zero, List.set_cons_succ, i64_w, i32_w]
              rfl
             refine pure_ (i := 31) (N := some 169) (v := ?_) (a' := ?_) #[o,o,o,o,o,o,o,o,o,o,o,o,o,o,o,o,o,o,o,o,o,o,o,o,o,o,o,o,o,o,o,o,z] rfl rfl (any_of HT_.out (by kernel_rfl)) (fun _ _ _ h => h) (Or.inl ⟨by rfl, ?_⟩) ?_ ?_
             rotate_left
             ·intro w'
              go_simp
              with_reducible rfl
             rotate_left
             ·simp only [Act.put, List.setIfInBounds_toArray, List.set_cons_zero, List.set_cons_succ, i64_w, i32_w]
              rfl
             refine pure_ (i := 32) (N := some 2) (v := ?_) (a' := ?_) #[o,o,o,o,o,o,o,o,o,o,o,o,o,o,o,o,o,o,o,o,o,o,o,o,o,o,o,o,o,o,o,o,o] rfl rfl (any_of HT_.out (by kernel_rfl)) (fun _ _ _ h => h) (Or.inl ⟨by rfl, ?_⟩) ?_ ?_
             rotate_left
             ·intro w'
              go_simp
              with_reducible rfl
             rotate_left
             ·simp only [Act.put, List.setIfInBounds_toArray, List.set_cons_zero, List.set_cons_succ, i64_w, i32_w]
              rfl
             refine done_ (done_of HT_.out (by kernel_rfl)) ?_
             try go_wp2
             go_ret
             exact ⟨by first | rfl | (simp [errW_none, errW_some] <;> rfl) | (simp [*, errW_none, errW_some] <;> rfl), sB HB.out⟩
            ·rw [if_neg c79] at H
             have c79b0 : (t361 == (t341 == 3)) = false := by simpa using c79
             (try (have c79b1 : decide (t361 = (t341 == 3)) = false := by simpa using c79))
             (try (have c79b2 : (t361 == (t341 == 3)) = false := by simpa using c79))
             (try (have c79b3 : ¬ (t361 = (t341 == 3)) := by simpa using c79))
             clear c79
             exact absurd ((Option.some.inj H).trans HRT.out) (by decide)
           ·rw [if_neg c76] at H
            have c76b0 : (t357 == true) = false := by simpa using c76
            (try (have c76b1 : decide (t357 = true) = false := by simpa using c76))
            (try (have c76b2 : (t357 == true) = false := by simpa using c76))
            (try (have c76b3 : ¬ (t357 = true) := by simpa using c76))
            clear c76
            exact absurd ((Option.some.inj H).trans HRT.out) (by decide)
          ·rw [if_neg c75] at H
           have c75b0 : (t341 == 1) = false := beq_eq_false_iff_ne.mpr c75
           have c75b1 : (t341 != 1) = true := bne_iff_ne.mpr c75
           by_cases c92 : (t357 == (t341 == 2)) = true
           ·rw [if_pos c92] at H
            have c92b0 : (t357 == (t341 == 2)) = true := c92
            (try (have c92b1 : decide (t357 = (t341 == 2)) = true := by simpa using c92))
            (try (have c92b2 : (t357 == (t341 == 2)) = true := by simpa using c92))
            clear c92
            replace H := Option.bind_eq_some_iff.mp H
            obtain ⟨t369, A930, H⟩ := H
            replace H : ((laws_contains.f k2 t369 (wrap64 (t338 + (wrap64 (10 * (wrap64 (t339 - 1))))))).bind fun t372 => (if (t372 == (t341 == 3)) = true then ((impl_FollowRequest.f k2 t334 t337 t338 t339).bind fun bt373 => ((impl_EqualOutcomes.f k2 t341 t342 t343 t344 bt373.1 bt373.2.1 bt373.2.2.1 bt373.2.2.2).bind fun t379 => (some t379))) else (some false))) = some r := H
            have A93 := Aside0.mk A930
            clear A930
            replace H := Option.bind_eq_some_iff.mp H
            obtain ⟨t372, A940, H⟩ := H
            replace H : (if (t372 == (t341 == 3)) = true then ((impl_FollowRequest.f k2 t334 t337 t338 t339).bind fun bt373 => ((impl_EqualOutcomes.f k2 t341 t342 t343 t344 bt373.1 bt373.2.1 bt373.2.2.1 bt373.2.2.2).bind fun t379 => (some t379))) else (some false)) = some r := H
            have A94 := Aside0.mk A940
            clear A940
            by_cases c95 : (t372 == (t341 == 3)) = true
            ·rw [if_pos c95] at H
             have c95b0 : (t372 == (t341 == 3)) = true := c95
             (try (have c95b1 : decide (t372 = (t341 == 3)) = true := by simpa using c95))
             (try (have c95b2 : (t372 == (t341 == 3)) = true := by simpa using c95))
             clear c95
             replace H := Option.bind_eq_some_iff.mp H
             obtain ⟨⟨t373, t374, t375, t376⟩, A960, H⟩ := H
             replace H : ((impl_EqualOutcomes.f k2 t341 t342 t343 t344 t373 t374 t375 t376).bind fun t379 => (some t379)) = some r := H
             have A96 := Aside0.mk A960
             clear A960
             replace H := Option.bind_eq_some_iff.mp H
             obtain ⟨t379, A970, H⟩ := H
             replace H : (some t379) = some r := H
             have A97 := Aside0.mk A970
             clear A970
             obtain rfl := Option.some.inj H
             have hnb98 := NB347_340.out
             have hnc98 := NB340_347.out
             have hcz99_0 : wr.cell? ⟨gb347, 0, none⟩ = some (.int .i64 t341) := (blk_cell BK347.out 0).trans rfl
             have hcz99_1 : wr.cell? ⟨gb347, 1, none⟩ = some (.int .i64 t342) := (blk_cell BK347.out 1).trans rfl
             have hcz99_2 : wr.cell? ⟨gb347, 2, none⟩ = some (.int .i64 t343) := (blk_cell BK347.out 2).trans rfl
             have hcz99_3 : wr.cell? ⟨gb347, 3, none⟩ = some (.slice Ao20 t344.length co20) := (blk_cell BK347.out 3).trans rfl
             have hfz99_0 := blk_frozen BK347.out 0
             have hfz99_1 := blk_frozen BK347.out 1
             have hfz99_2 := blk_frozen BK347.out 2
             have hfz99_3 := blk_frozen BK347.out 3
             have hcz100_0 : wr.cell? ⟨gb340, 0, none⟩ = some (.int .i64 t337) := (blk_cell BK340.out 0).trans rfl
             have hcz100_1 : wr.cell? ⟨gb340, 1, none⟩ = some (.int .i64 t338) := (blk_cell BK340.out 1).trans rfl
             have hcz100_2 : wr.cell? ⟨gb340, 2, none⟩ = some (.int .i64 t339) := (blk_cell BK340.out 2).trans rfl
             have hfz100_0 := blk_frozen BK340.out 0
             have hfz100_1 := blk_frozen BK340.out 1
             have hfz100_2 := blk_frozen BK340.out 2
             try go_wp2
             replace HO_3 := am (Kd.R_drew HO_3.out)
             replace HO_348003 := am (Kd.R_drew HO_348003.out)
             replace BK340 := am (blk_drew BK340.out)
             replace BK347 := am (blk_drew BK347.out)
             replace HB := am (below_drew1 HB.out)
             refine start_ (n := 33) (S := fun w' => w'.cell? ⟨gb340, 0, none⟩ = some (.int .i64 t337) ∧ w'.cell? ⟨gb340, 1, none⟩ = some (.int .i64 t338) ∧ w'.cell? ⟨gb340, 2, none⟩ = some (.int .i64 t339) ∧ w'.cell? ⟨gb347, 0, none⟩ = some (.int .i64 t341) ∧ w'.cell? ⟨gb347, 1, none⟩ = some (.int .i64 t342) ∧ w'.cell? ⟨gb347, 2, none⟩ = some (.int .i64 t343) ∧ w'.cell? ⟨gb347, 3, none⟩ = some (.slice Ao20 t344.length co20)) (ds := []) #[z,z,z,z,z,z,z,z,z,z,z,z,z,z,z,z,z,z,z,z,z,z,z,z,z,z,z,z,z,z,z,z,z] (by kernel_rfl) rfl rfl ⟨(blk_cell BK340.out 0).trans rfl, (blk_cell BK340.out 1).trans rfl, (blk_cell BK340.out 2).trans rfl, (blk_cell BK347.out 0).trans rfl, (blk_cell BK347.out 1).trans rfl, (blk_cell BK347.out 2).trans rfl, (blk_cell BK347.out 3).trans rfl⟩ (fun hHeld => ?_); refine with_tabW laws_FnFollowed.tab24 laws_FnFollowed.bits24 (fun HT_ HW_ => ?_)
             generalize wr.drew = w101 at HO_3 HO_348003 BK340 BK347 HB hHeld ⊢
             refine pure_ (i := 0) (N := some 138) (v := ?_) (a' := ?_) #[o,z,z,z,z,z,z,z,z,z,z,z,z,z,z,z,z,z,z,z,z,z,z,z,z,z,z,z,z,z,z,z,z] rfl rfl (any_of HT_.out (by kernel_rfl)) (fun _ _ _ h => h) (Or.inl ⟨by rfl, ?_⟩) ?_ ?_
             rotate_left
             ·intro w'
              go_simp
              with_reducible rfl
             rotate_left
             ·simp only [Act.put, List.setIfInBounds_toArray, List.set_cons_zero, List.set_cons_succ, i64_w, i32_w]
              rfl
             refine pure_ (i := 3) (N := some 141) (v := ?_) (a' := ?_) #[o,z,z,o,z,z,z,z,z,z,z,z,z,z,z,z,z,z,z,z,z,z,z,z,z,z,z,z,z,z,z,z,z] rfl rfl (any_of HT_.out (by kernel_rfl)) (fun _ _ _ h => h) (Or.inl ⟨by rfl, ?_⟩) ?_ ?_
             rotate_left
             ·intro w'
              go_simp
              with_reducible rfl
             rotate_left
             ·simp only [Act.put, List.setIfInBounds_toArray, List.set_cons_zero, List.set_cons_succ, i64_w, i32_w]
              rfl
             refine take_ (i := 1) (N := some 139) (v := ?_) (a' := ?_) #[o,o,z,o,z,z,z,z,z,z,z,z,z,z,z,z,z,z,z,z,z,z,z,z,z,z,z,z,z,z,z,z,z] rfl rfl (take_ofW HT_.out HW_.out (by kernel_rfl)) (fun _ _ _ h => h) (Or.inl ⟨by rfl, ?_⟩) hHeld ?_ ?_
             rotate_left
             ·rintro w' ⟨s0, s1, s2, s3, s4, s5, s6⟩
              go_simp
              with_reducible rfl
             rotate_left
             ·simp only [Act.put, List.setIfInBounds_toArray, List.set_cons_zero, List.set_cons_succ, i64_w, i32_w]
              rfl
             refine take_ (i := 4) (N := some 142) (v := ?_) (a' := ?_) #[o,o,z,o,o,z,z,z,z,z,z,z,z,z,z,z,z,z,z,z,z,z,z,z,z,z,z,z,z,z,z,z,z] rfl rfl (take_ofW HT_.out HW_.out (by kernel_rfl)) (fun _ _ _ h => h) (Or.inl ⟨by rfl, ?_⟩) hHeld ?_ ?_
             rotate_left
             ·rintro w' ⟨s0, s1, s2, s3, s4, s5, s6⟩
              go_simp
              with_reducible rfl
             rotate_left
             ·simp only [Act.put, List.setIfInBounds_toArray, List.set_cons_zero, List.set_cons_succ, i64_w, i32_w]
              rfl
             refine pure_ (i := 5) (N := some 143) (v := ?_) (a' := ?_) #[o,o,z,o,o,o,z,z,z,z,z,z,z,z,z,z,z,z,z,z,z,z,z,z,z,z,z,z,z,z,z,z,z] rfl rfl (any_of HT_.out (by kernel_rfl)) (fun _ _ _ h => h) (Or.inl ⟨by rfl, ?_⟩) ?_ ?_
             rotate_left
             ·intro w'
              go_simp
              with_reducible rfl
             rotate_left
             ·simp only [Act.put, List.setIfInBounds_toArray, List.set_cons_zero, List.set_cons_succ, i64_w, i32_w]
              rfl
             refine one_ (i := 2) (N := some 140) #[o,o,o,o,o,o,z,z,z,z,z,z,z,z,z,z,z,z,z,z,z,z,z,z,z,z,z,z,z,z,z,z,z] rfl rfl (one_of HT_.out (by kernel_rfl)) (by decide) (fun K hK => ?_)
             refine goes_ Try.func68 (by kernel_rfl) rfl #[.slice Ao15 t334.length co15, .agg #[.int .i64 t337, .int .i64 t338, .int .i64 t339]] (by rfl) rfl rfl (by (try simp only [List.map_toArray, List.map_cons, List.map_nil]); first | done | rfl | (simp only [List.length_drop, List.length_take]; rfl)) ?_
             with_reducible refine (impl_IsSettled.calls k2 _ _ t334 t337 t338 t339 t357 _ ?side1 ?side2 A74.out).mono ?_
             (case side1 => exact cB ((Kd.R_reads' HO_3.out).2.2))
             (case side2 => exact (Kd.R_reads' HO_3.out).2.1)
             rintro e w102 ⟨rfl, hb⟩
             refine ⟨_, rfl, ?_⟩
             replace HO_3 := am (Kd.R_below (rB HO_3.out) hb)
             replace HO_348003 := am (Kd.R_below (rB HO_348003.out) hb)
             replace BK340 := am (blk_below (bB BK340.out) hb)
             replace BK347 := am (blk_below (bB BK347.out) hb)
             replace HB := am (below_step (sB HB.out) hb)
             (try clear hb)
             (try clear hb2)
             (try clear hk)
             (try clear hi)
             refine hK.out _ _ ⟨(blk_cell BK340.out 0).trans rfl, (blk_cell BK340.out 1).trans rfl, (blk_cell BK340.out 2).trans rfl, (blk_cell BK347.out 0).trans rfl, (blk_cell BK347.out 1).trans rfl, (blk_cell BK347.out 2).trans rfl, (blk_cell BK347.out 3).trans rfl⟩ (fun hHeld => ?_)
             clear hK K
             refine norm_ (a' := ?_) ?_ ?_
             rotate_left
             ·show Act.put _ (some 140) _ = _
              simp only [Act.put, List.setIfInBounds_toArray, List.set_cons_zero, List.set_cons_succ, i64_w, i32_w]
              rfl
             refine pure_ (i := 6) (N := some 144) (v := ?_) (a' := ?_) #[o,o,o,o,o,o,o,z,z,z,z,z,z,z,z,z,z,z,z,z,z,z,z,z,z,z,z,z,z,z,z,z,z] rfl rfl (any_of HT_.out (by kernel_rfl)) (fun _ _ _ h => h) (Or.inl ⟨by rfl, ?_⟩) ?_ ?_
             rotate_left
             ·intro w'
              go_simp
              with_reducible rfl
             rotate_left
             ·simp only [Act.put, List.setIfInBounds_toArray, List.set_cons_zero, List.set_cons_succ, i64_w, i32_w]
              rfl
             refine pure_ (i := 7) (N := some 145) (v := ?_) (a' := ?_) #[o,o,o,o,o,o,o,o,z,z,z,z,z,z,z,z,z,z,z,z,z,z,z,z,z,z,z,z,z,z,z,z,z] rfl rfl (any_of HT_.out (by kernel_rfl)) (fun _ _ _ h => h) (Or.inl ⟨by rfl, ?_⟩) ?_ ?_
             rotate_left
             ·intro w'
              go_simp
              with_reducible rfl
             rotate_left
             ·simp only [Act.put, List.setIfInBounds_toArray, List.set_cons_zero, List.set_cons_succ, i64_w, i32_w]
              rfl
             refine take_ (i := 8) (N := some 146) (v := ?_) (a' := ?_) #[o,o,o,o,o,o,o,o,o,z,z,z,z,z,z,z,z,z,z,z,z,z,z,z,z,z,z,z,z,z,z,z,z] rfl rfl (take_ofW HT_.out HW_.out (by kernel_rfl)) (fun _ _ _ h => h) (Or.inl ⟨by rfl, ?_⟩) hHeld ?_ ?_
             rotate_left
             ·rintro w' ⟨s0, s1, s2, s3, s4, s5, s6⟩
              go_simp
              with_reducible rfl
             rotate_left
             ·simp only [Act.put, List.setIfInBounds_toArray, List.set_cons_zero, List.set_cons_succ, i64_w, i32_w]
              rfl
             refine pure_ (i := 9) (N := some 147) (v := ?_) (a' := ?_) #[o,o,o,o,o,o,o,o,o,o,z,z,z,z,z,z,z,z,z,z,z,z,z,z,z,z,z,z,z,z,z,z,z] rfl rfl (any_of HT_.out (by kernel_rfl)) (fun _ _ _ h => h) (Or.inl ⟨by rfl, ?_⟩) ?_ ?_
             rotate_left
             ·intro w'
              go_simp
              with_reducible rfl
             rotate_left
             ·simp only [Act.put, List.setIfInBounds_toArray, List.set_cons_zero, List.set_cons_succ, i64_w, i32_w]
              rfl
             refine pure_ (i := 10) (N := some 148) (v := ?_) (a' := ?_) #[o,o,o,o,o,o,o,o,o,o,o,z,z,z,z,z,z,z,z,z,z,z,z,z,z,z,z,z,z,z,z,z,z] rfl rfl (any_of HT_.out (by kernel_rfl)) (fun _ _ _ h => h) (Or.inl ⟨by rfl, ?_⟩) ?_ ?_
             rotate_left
             ·intro w'
              go_simp
              with_reducible rfl
             rotate_left
             ·simp only [Act.put, List.setIfInBounds_toArray, List.set_cons_zero, List.set_cons_succ, i64_w, i32_w]
              rfl
             refine pure_ (i := 11) (N := some 149) (v := ?_) (a' := ?_) #[o,o,o,o,o,o,o,o,o,o,o,o,z,z,z,z,z,z,z,z,z,z,z,z,z,z,z,z,z,z,z,z,z] rfl rfl (any_of HT_.out (by kernel_rfl)) (fun _ _ _ h => h) (Or.inl ⟨by rfl, ?_⟩) ?_ ?_
             rotate_left
             ·intro w'
              go_simp
              with_reducible rfl
             rotate_left
             ·simp only [Act.put, List.setIfInBounds_toArray, List.set_cons_zero, List.set_cons_succ, i64_w, i32_w]
              rfl
             refine pure_ (i := 12) (N := some 150) (v := ?_) (a' := ?_) #[o,o,o,o,o,o,o,o,o,o,o,o,o,z,z,z,z,z,z,z,z,z,z,z,z,z,z,z,z,z,z,z,z] rfl rfl (any_of HT_.out (by kernel_rfl)) (fun _ _ _ h => h) (Or.inl ⟨by rfl, ?_⟩) ?_ ?_
             rotate_left
             ·intro w'
              go_simp
              with_reducible rfl
             rotate_left
             ·simp only [Act.put, List.setIfInBounds_toArray, List.set_cons_zero, List.set_cons_succ, i64_w, i32_w]
              rfl
             refine pure_ (i := 13) (N := some 151) (v := ?_) (a' := ?_) #[o,o,o,o,o,o,o,o,o,o,o,o,o,o,z,z,z,z,z,z,z,z,z,z,z,z,z,z,z,z,z,z,z] rfl rfl (any_of HT_.out (by kernel_rfl)) (fun _ _ _ h => h) (Or.inl ⟨by rfl, ?_⟩) ?_ ?_
             rotate_left
             ·intro w'
              go_simp
              with_reducible rfl
             rotate_left
             ·simp only [Act.put, List.setIfInBounds_toArray, List.set_cons_zero, List.set_cons_succ, i64_w, i32_w]
              rfl
             refine pure_ (i := 14) (N := some 152) (v := ?_) (a' := ?_) #[o,o,o,o,o,o,o,o,o,o,o,o,o,o,o,z,z,z,z,z,z,z,z,z,z,z,z,z,z,z,z,z,z] rfl rfl (any_of HT_.out (by kernel_rfl)) (fun _ _ _ h => h) (Or.inl ⟨by rfl, ?_⟩) ?_ ?_
             rotate_left
             ·intro w'
              go_simp
              with_reducible rfl
             rotate_left
             ·simp only [Act.put, List.setIfInBounds_toArray, List.set_cons_zero, List.set_cons_succ, i64_w, i32_w]
              rfl
             refine pure_ (i := 15) (N := some 153) (v := ?_) (a' := ?_) #[o,o,o,o,o,o,o,o,o,o,o,o,o,o,o,o,z,z,z,z,z,z,z,z,z,z,z,z,z,z,z,z,z] rfl rfl (any_of HT_.out (by kernel_rfl)) (fun _ _ _ h => h) (Or.inl ⟨by rfl, ?_⟩) ?_ ?_
             rotate_left
             ·intro w'
              go_simp
              with_reducible rfl
             rotate_left
             ·simp only [Act.put, List.setIfInBounds_toArray, List.set_cons_zero, List.set_cons_succ, i64_w, i32_w]
              rfl
             refine pure_ (i := 18) (N := some 156) (v := ?_) (a' := ?_) #[o,o,o,o,o,o,o,o,o,o,o,o,o,o,o,o,z,z,o,z,z,z,z,z,z,z,z,z,z,z,z,z,z] rfl rfl (any_of HT_.out (by kernel_rfl)) (fun _ _ _ h => h) (Or.inl ⟨by rfl, ?_⟩) ?_ ?_
             rotate_left
             ·intro w'
              go_simp
              with_reducible rfl
             rotate_left
             ·simp only [Act.put, List.setIfInBounds_toArray, List.set_cons_zero, List.set_cons_succ, i64_w, i32_w]
              rfl
             refine pure_ (i := 20) (N := some 158) (v := ?_) (a' := ?_) #[o,o,o,o,o,o,o,o,o,o,o,o,o,o,o,o,z,z,o,z,o,z,z,z,z,z,z,z,z,z,z,z,z] rfl rfl (any_of HT_.out (by kernel_rfl)) (fun _ _ _ h => h) (Or.inl ⟨by rfl, ?_⟩) ?_ ?_
             rotate_left
             ·intro w'
              go_simp
              with_reducible rfl
             rotate_left
             ·simp only [Act.put, List.setIfInBounds_toArray, List.set_cons_zero, List.set_cons_succ, i64_w, i32_w]
              rfl
             refine take_ (i := 16) (N := some 154) (v := ?_) (a' := ?_) #[o,o,o,o,o,o,o,o,o,o,o,o,o,o,o,o,o,z,o,z,o,z,z,z,z,z,z,z,z,z,z,z,z] rfl rfl (take_ofW HT_.out HW_.out (by kernel_rfl)) (fun _ _ _ h => h) (Or.inl ⟨by rfl, ?_⟩) hHeld ?_ ?_
             rotate_left
             ·rintro w' ⟨s0, s1, s2, s3, s4, s5, s6⟩
              go_simp
              with_reducible rfl
             rotate_left
             ·simp only [Act.put, List.setIfInBounds_toArray, List.set_cons_zero, List.set_cons_succ, i64_w, i32_w]
              rfl
             refine take_ (i := 21) (N := some 159) (v := ?_) (a' := ?_) #[o,o,o,o,o,o,o,o,o,o,o,o,o,o,o,o,o,z,o,z,o,o,z,z,z,z,z,z,z,z,z,z,z] rfl rfl (take_ofW HT_.out HW_.out (by kernel_rfl)) (fun _ _ _ h => h) (Or.inl ⟨by rfl, ?_⟩) hHeld ?_ ?_
             rotate_left
             ·rintro w' ⟨s0, s1, s2, s3, s4, s5, s6⟩
              go_simp
              with_reducible rfl
             rotate_left
             ·simp only [Act.put, List.setIfInBounds_toArray, List.set_cons_zero, List.set_cons_succ, i64_w, i32_w]
              rfl
             refine pure_ (i := 22) (N := some 160) (v := ?_) (a' := ?_) #[o,o,o,o,o,o,o,o,o,o,o,o,o,o,o,o,o,z,o,z,o,o,o,z,z,z,z,z,z,z,z,z,z] rfl rfl (any_of HT_.out (by kernel_rfl)) (fun _ _ _ h => h) (Or.inl ⟨by rfl, ?_⟩) ?_ ?_
             rotate_left
             ·intro w'
              go_simp
              with_reducible rfl
             rotate_left
             ·simp only [Act.put, List.setIfInBounds_toArray, List.set_cons_zero, List.set_cons_succ, i64_w, i32_w]
              rfl
             refine one_ (i := 17) (N := some 155) #[o,o,o,o,o,o,o,o,o,o,o,o,o,o,o,o,o,o,o,z,o,o,o,z,z,z,z,z,z,z,z,z,z] rfl rfl (one_of HT_.out (by kernel_rfl)) (by decide) (fun K hK => ?_)
             refine goes_ Try.func70 (by kernel_rfl) rfl #[.slice Ao15 t334.length co15, .int .i64 t337] (by rfl) rfl rfl (by (try simp only [List.map_toArray, List.map_cons, List.map_nil]); first | done | rfl | (simp only [List.length_drop, List.length_take]; rfl)) ?_
             with_reducible refine (impl_LoopsFrom.calls k2 _ _ t334 t337 t369 _ ?side1 ?side2 A93.out).mono ?_
             (case side1 => exact cB ((Kd.R_reads' HO_3.out).2.2))
             (case side2 => exact (Kd.R_reads' HO_3.out).2.1)
             rintro e w103 ⟨v370, rfl, ho0, hb⟩
             refine ⟨_, rfl, ?_⟩
             have n0_ := am (Kd.R_below (rB HO_3.out) hb)
             have n1_ := am (Kd.R_below (rB HO_348003.out) hb)
             have n2_ := am (Kd.R_lower ho0 (below_size (sB HB.out)))
             have n3_ := am (blk_below (bB BK340.out) hb)
             have n4_ := am (blk_below (bB BK347.out) hb)
             have n5_ := am (below_step (sB HB.out) hb)
             clear HO_3
             clear HO_348003
             clear BK340
             clear BK347
             clear HB
             have HO_3 := n0_
             have HO_348003 := n1_
             have HO371 := n2_
             have BK340 := n3_
             have BK347 := n4_
             have HB := n5_
             clear n0_ n1_ n2_ n3_ n4_ n5_
             (try clear hb)
             (try clear hb2)
             (try clear hk)
             (try clear hi)
             (try clear ho0)
             obtain ⟨Ao104, co104, eo104⟩ := Kd.R_slice HO371.out
             (first | subst eo104 | (injection eo104 with f1_ f2_ f3_; have f4_ := f1_.symm; have f5_ := f3_.symm; clear f1_ f2_ f3_; subst f4_; subst f5_))
             refine hK.out _ _ ⟨(blk_cell BK340.out 0).trans rfl, (blk_cell BK340.out 1).trans rfl, (blk_cell BK340.out 2).trans rfl, (blk_cell BK347.out 0).trans rfl, (blk_cell BK347.out 1).trans rfl, (blk_cell BK347.out 2).trans rfl, (blk_cell BK347.out 3).trans rfl⟩ (fun hHeld => ?_)
             clear hK K
             refine norm_ (a' := ?_) ?_ ?_
             rotate_left
             ·show Act.put _ (some 155) _ = _
              simp only [Act.put, List.setIfInBounds_toArray, List.set_cons_zero, List.set_cons_succ, i64_w, i32_w]
              rfl
             refine one_ (i := 19) (N := some 157) #[o,o,o,o,o,o,o,o,o,o,o,o,o,o,o,o,o,o,o,o,o,o,o,z,z,z,z,z,z,z,z,z,z] rfl rfl (one_of HT_.out (by kernel_rfl)) (by decide) (fun K hK => ?_)
             refine goes_ Try.func83 (by kernel_rfl) rfl #[.slice Ao104 t369.length co104, .int .i64 (wrap64 (t338 + (wrap64 (10 * (wrap64 (t339 - 1))))))] (by rfl) rfl rfl (by (try simp only [List.map_toArray, List.map_cons, List.map_nil]); first | done | rfl | (simp only [List.length_drop, List.length_take]; rfl)) ?_
             with_reducible refine (laws_contains.calls k2 _ _ t369 (wrap64 (t338 + (wrap64 (10 * (wrap64 (t339 - 1)))))) t372 _ ?side1 ?side2 A94.out).mono ?_
             (case side1 => exact cB ((Kd.R_reads' HO371.out).2.2))
             (case side2 => exact (Kd.R_reads' HO371.out).2.1)
             rintro e w' ⟨rfl, ⟨nd, rfl⟩⟩
             refine ⟨_, rfl, ?_⟩
             replace BK340 := am (blk_drewN BK340.out nd)
             replace BK347 := am (blk_drewN BK347.out nd)
             refine hK.out _ _ ⟨(blk_cell BK340.out 0).trans rfl, (blk_cell BK340.out 1).trans rfl, (blk_cell BK340.out 2).trans rfl, (blk_cell BK347.out 0).trans rfl, (blk_cell BK347.out 1).trans rfl, (blk_cell BK347.out 2).trans rfl, (blk_cell BK347.out 3).trans rfl⟩ (fun hHeld => ?_)
             clear hK K
             refine norm_ (a' := ?_) ?_ ?_
             rotate_left
             ·show Act.put _ (some 157) _ = _
              simp only [Act.put, List.setIfInBounds_toArray, List.set_cons_zero, List.set_cons_succ, i64_w, i32_w]
              rfl
             refine pure_ (i := 23) (N := some 161) (v := ?_) (a' := ?_) #[o,o,o,o,o,o,o,o,o,o,o,o,o,o,o,o,o,o,o,o,o,o,o,o,z,z,z,z,z,z,z,z,z] rfl rfl (any_of HT_.out (by kernel_rfl)) (fun _ _ _ h => h) (Or.inl ⟨by rfl, ?_⟩) ?_ ?_
             rotate_left
             ·intro w'
              go_simp
              with_reducible rfl
             rotate_left
             ·simp only [Act.put, List.setIfInBounds_toArray, List.set_cons_zero, List.set_cons_succ, i64_w, i32_w]
              rfl
             refine pure_ (i := 24) (N := some 162) (v := ?_) (a' := ?_) #[o,o,o,o,o,o,o,o,o,o,o,o,o,o,o,o,o,o,o,o,o,o,o,o,o,z,z,z,z,z,z,z,z] rfl rfl (any_of HT_.out (by kernel_rfl)) (fun _ _ _ h => h) (Or.inl ⟨by rfl, ?_⟩) ?_ ?_
             rotate_left
             ·intro w'
              go_simp
              with_reducible rfl
             rotate_left
             ·simp only [Act.put, List.setIfInBounds_toArray, List.set_cons_zero, List.set_cons_succ, i64_w, i32_w]
              rfl
             refine pure_ (i := 25) (N := some 163) (v := ?_) (a' := ?_) #[o,o,o,o,o,o,o,o,o,o,o,o,o,o,o,o,o,o,o,o,o,o,o,o,o,o,z,z,z,z,z,z,z] rfl rfl (any_of HT_.out (by kernel_rfl)) (fun _ _ _ h => h) (Or.inl ⟨by rfl, ?_⟩) ?_ ?_
             rotate_left
             ·intro w'
              go_simp
              with_reducible rfl
             rotate_left
             ·simp only [Act.put, List.setIfInBounds_toArray, List.set_cons_zero, List.set_cons_succ, i64_w, i32_w]
              rfl
             refine pure_ (i := 27) (N := some 165) (v := ?_) (a' := ?_) #[o,o,o,o,o,o,o,o,o,o,o,o,o,o,o,o,o,o,o,o,o,o,o,o,o,o,z,o,z,z,z,z,z] rfl rfl (any_of HT_.out (by kernel_rfl)) (fun _ _ _ h => h) (Or.inl ⟨by rfl, ?_⟩) ?_ ?_
             rotate_left
             ·intro w'
              go_simp
              with_reducible rfl
             rotate_left
             ·simp only [Act.put, List.setIfInBounds_toArray, List.set_cons_zero, List.set_cons_succ, i64_w, i32_w]
              rfl
             refine take_ (i := 26) (N := some 164) (v := ?_) (a' := ?_) #[o,o,o,o,o,o,o,o,o,o,o,o,o,o,o,o,o,o,o,o,o,o,o,o,o,o,o,o,z,z,z,z,z] rfl rfl (take_ofW HT_.out HW_.out (by kernel_rfl)) (fun _ _ _ h => h) (Or.inl ⟨by rfl, ?_⟩) hHeld ?_ ?_
             rotate_left
             ·rintro w' ⟨s0, s1, s2, s3, s4, s5, s6⟩
              go_simp
              with_reducible rfl
             rotate_left
             ·simp only [Act.put, List.setIfInBounds_toArray, List.set_cons_zero, List.set_cons_succ, i64_w, i32_w]
              rfl
             refine take_ (i := 28) (N := some 166) (v := ?_) (a' := ?_) #[o,o,o,o,o,o,o,o,o,o,o,o,o,o,o,o,o,o,o,o,o,o,o,o,o,o,o,o,o,z,z,z,z] rfl rfl (take_ofW HT_.out HW_.out (by kernel_rfl)) (fun _ _ _ h => h) (Or.inl ⟨by rfl, ?_⟩) hHeld ?_ ?_
             rotate_left
             ·rintro w' ⟨s0, s1, s2, s3, s4, s5, s6⟩
              go_simp
              with_reducible rfl
             rotate_left
             ·simp only [Act.put, List.setIfInBounds_toArray, List.set_cons_zero, List.set_cons_succ, i64_w, i32_w]
              rfl
             refine one_ (i := 29) (N := some 167) #[o,o,o,o,o,o,o,o,o,o,o,o,o,o,o,o,o,o,o,o,o,o,o,o,o,o,o,o,o,o,z,z,z] rfl rfl (one_of HT_.out (by kernel_rfl)) (by decide) (fun K hK => ?_)
             refine goes_ Try.func75 (by kernel_rfl) rfl #[.slice Ao15 t334.length co15, .agg #[.int .i64 t337, .int .i64 t338, .int .i64 t339]] (by rfl) rfl rfl (by (try simp only [List.map_toArray, List.map_cons, List.map_nil]); first | done | rfl | (simp only [List.length_drop, List.length_take]; rfl)) ?_
             with_reducible refine (impl_FollowRequest.calls k2 _ _ t334 t337 t338 t339 t373 t374 t375 t376 _ ?side1 ?side2 A96.out).mono ?_
             (case side1 => exact cB ((Kd.R_reads' HO_3.out).2.2))
             (case side2 => exact (Kd.R_reads' HO_3.out).2.1)
             rintro e w105 ⟨v377, rfl, ho0, hb⟩
             refine ⟨_, rfl, ?_⟩
             have n0_ := am (Kd.R_below (rB HO_3.out) hb)
             have n1_ := am (Kd.R_elder' (rB HO_348003.out) (Kd.R_base ho0) hb)
             have n2_ := am (Kd.R_below (rB HO371.out) hb)
             have n3_ := am (Kd.R_lower (Kd.R_new' ho0 (Kd.R_lt (rB HO_348003.out))) (below_size (sB HB.out)))
             have n4_ := am (blk_below BK340.out hb)
             have n5_ := am (blk_below BK347.out hb)
             have n6_ := am (below_step (sB HB.out) hb)
             clear HO_3
             clear HO_348003
             clear HO371
             clear BK340
             clear BK347
             clear HB
             have HO_3 := n0_
             have HO_348003 := n1_
             have HO371 := n2_
             have HO378 := n3_
             have BK340 := n4_
             have BK347 := n5_
             have HB := n6_
             clear n0_ n1_ n2_ n3_ n4_ n5_ n6_
             (try clear hb)
             (try clear hb2)
             (try clear hk)
             (try clear hi)
             (try clear ho0)
             obtain ⟨Ao106, co106, eo106⟩ := Kd.R_slice HO378.out
             (first | subst eo106 | (injection eo106 with f1_ f2_ f3_; have f4_ := f1_.symm; have f5_ := f3_.symm; clear f1_ f2_ f3_; subst f4_; subst f5_))
             refine hK.out _ _ ⟨(blk_cell BK340.out 0).trans rfl, (blk_cell BK340.out 1).trans rfl, (blk_cell BK340.out 2).trans rfl, (blk_cell BK347.out 0).trans rfl, (blk_cell BK347.out 1).trans rfl, (blk_cell BK347.out 2).trans rfl, (blk_cell BK347.out 3).trans rfl⟩ (fun hHeld => ?_)
             clear hK K
             refine norm_ (a' := ?_) ?_ ?_
             rotate_left
             ·show Act.put _ (some 167) _ = _
              simp only [Act.put, List.setIfInBounds_toArray, List.set_cons_zero, List.set_cons_succ, i64_w, i32_w]
              rfl
             refine one_ (i := 30) (N := some 168) #[o,o,o,o,o,o,o,o,o,o,o,o,o,o,o,o,o,o,o,o,o,o,o,o,o,o,o,o,o,o,o,z,z] rfl rfl (one_of HT_.out (by kernel_rfl)) (by decide) (fun K hK => ?_)
             refine goes_ Try.func84 (by kernel_rfl) rfl #[.agg #[.int .i64 t341, .int .i64 t342, .int .i64 t343, .slice Ao20 t344.length co20], .agg #[.int .i64 t373, .int .i64 t374, .int .i64 t375, .slice Ao106 t376.length co106]] (by rfl) rfl rfl (by (try simp only [List.map_toArray, List.map_cons, List.map_nil]); first | done | rfl | (simp only [List.length_drop, List.length_take]; rfl)) ?_
             with_reducible refine (impl_EqualOutcomes.calls k2 t341 t342 t343 _ _ t344 t373 t374 t375 _ _ t376 t379 _ ?side1 ?side2 ?side3 ?side4 A97.out).mono ?_
             (case side1 => exact cB ((Kd.R_reads' HO_348003.out).2.2))
             (case side2 => exact (Kd.R_reads' HO_348003.out).2.1)
             (case side3 => exact cB ((Kd.R_reads' HO378.out).2.2))
             (case side4 => exact (Kd.R_reads' HO378.out).2.1)
             rintro e w107 ⟨rfl, hb⟩
             refine ⟨_, rfl, ?_⟩
             replace HO_3 := am (Kd.R_below (rB HO_3.out) hb)
             replace HO_348003 := am (Kd.R_below (rB HO_348003.out) hb)
             replace HO371 := am (Kd.R_below (rB HO371.out) hb)
             replace HO378 := am (Kd.R_below (rB HO378.out) hb)
             replace BK340 := am (blk_below (bB BK340.out) hb)
             replace BK347 := am (blk_below (bB BK347.out) hb)
             replace HB := am (below_step (sB HB.out) hb)
             (try clear hb)
             (try clear hb2)
             (try clear hk)
             (try clear hi)
             refine hK.out _ _ ⟨(blk_cell BK340.out 0).trans rfl, (blk_cell BK340.out 1).trans rfl, (blk_cell BK340.out 2).trans rfl, (blk_cell BK347.out 0).trans rfl, (blk_cell BK347.out 1).trans rfl, (blk_cell BK347.out 2).trans rfl, (blk_cell BK347.out 3).trans rfl⟩ (fun hHeld => ?_)
             clear hK K
             refine norm_ (a' := ?_) ?_ ?_
             rotate_left
             ·show Act.put _ (some 168) _ = _
              simp only [Act.put, List.setIfInBounds_toArray, List.set_cons_zero, List.set_cons_succ, i64_w, i32_w]
              rfl
             refine pure_ (i := 31) (N := some 169) (v := ?_) (a' := ?_) #[o,o,o,o,o,o,o,o,o,o,o,o,o,o,o,o,o,o,o,o,o,o,o,o,o,o,o,o,o,o,o,o,z] rfl rfl (any_of HT_.out (by kernel_rfl)) (fun _ _ _ h => h) (Or.inl ⟨by rfl, ?_⟩) ?_ ?_
             rotate_left
             ·intro w'
              go_simp
              with_reducible rfl
             rotate_left
             ·simp only [Act.put, List.setIfInBounds_toArray, List.set_cons_zero, List.set_cons_succ, i64_w, i32_w]
              rfl
             refine pure_ (i := 32) (N := some 2) (v := ?_) (a' := ?_) #[o,o,o,o,o,o,o,o,o,o,o,o,o,o,o,o,o,o,o,o,o,o,o,o,o,o,o,o,o,o,o,o,o] rfl rfl (any_of HT_.out (by kernel_rfl)) (fun _ _ _ h => h) (Or.inl ⟨by rfl, ?_⟩) ?_ ?_
             rotate_left
             ·intro w'
              go_simp
              with_reducible rfl
             rotate_left
             ·simp only [Act.put, List.setIfInBounds_toArray, List.set_cons_zero, List.set_cons_succ, i64_w, i32_w]
              rfl
             refine done_ (done_of HT_.out (by kernel_rfl)) ?_
             try go_wp2
             go_ret
             exact ⟨by first | rfl | (simp [errW_none, errW_some] <;> rfl) | (simp [*, errW_none, errW_some] <;> rfl), sB HB.out⟩
            ·rw [if_neg c95] at H
             have c95b0 : (t372 == (t341 == 3)) = false := by simpa using c95
             (try (have c95b1 : decide (t372 = (t341 == 3)) = false := by simpa using c95))
             (try (have c95b2 : (t372 == (t341 == 3)) = false := by simpa using c95))
             (try (have c95b3 : ¬ (t372 = (t341 == 3)) := by simpa using c95))
             clear c95
             exact absurd ((Option.some.inj H).trans HRT.out) (by decide)
           ·rw [if_neg c92] at H
            have c92b0 : (t357 == (t341 == 2)) = false := by simpa using c92
            (try (have c92b1 : decide (t357 = (t341 == 2)) = false := by simpa using c92))
            (try (have c92b2 : (t357 == (t341 == 2)) = false := by simpa using c92))
            (try (have c92b3 : ¬ (t357 = (t341 == 2)) := by simpa using c92))
            clear c92
            exact absurd ((Option.some.inj H).trans HRT.out) (by decide)
   ·replace c10 := Bool.eq_false_iff.mpr c10
    subst c10
    have H1 : (if t341 = 0 then (some ((t344.length : Int) == 0)) else (some false)) = some r := by rw [if_neg (show ¬ (false = true) by decide)] at H; exact H
    clear H
    have H := H1
    clear H1
    by_cases c108 : t341 = 0
    ·rw [if_pos c108] at H
     have c108b0 : (t341 == 0) = true := beq_iff_eq.mpr c108
     have c108b1 : (t341 != 0) = false := bne_eq_false_iff_eq.mpr c108
     clear c108
     obtain rfl := Option.some.inj H
     go_enter Try.func14, Try.ntmps14
     try go_wp2_with (first | ((with_reducible refine gate_callee (f := 36) rfl ?_); refine goesL_ (some 12) rfl rfl Try.func36 (by kernel_rfl) rfl #[.slice A0 l0.length c0] rfl (by (try simp only [List.map_toArray, List.map_cons, List.map_nil]); first | done | rfl | (simp only [List.length_drop, List.length_take]; rfl)) ?_; (with_reducible refine (laws_big.calls _ _ l0 false _ ?side1 ?side2 A2.out).mono ?_); (case side1 => exact cB (HR0.out)); (case side2 => exact HC0.out); rintro e w' ⟨rfl, ⟨nd, rfl⟩⟩; refine ⟨_, rfl, ?_⟩) | ((with_reducible refine gate_callee (f := 79) rfl ?_); refine goesL_ (some 15) rfl rfl Try.func79 (by kernel_rfl) rfl #[.slice A0 l0.length c0] rfl (by (try simp only [List.map_toArray, List.map_cons, List.map_nil]); first | done | rfl | (simp only [List.length_drop, List.length_take]; rfl)) ?_; (with_reducible refine (spec_DrawFollowRequest.calls k _ _ l0 t334 t337 t338 t339 _ ?side1 ?side2 A4.out).mono ?_); (case side1 => exact cB (HR0.out)); (case side2 => exact HC0.out); rintro e w109 ⟨v335, rfl, ho0, hb⟩; refine ⟨_, rfl, ?_⟩; have n0_ := am (Kd.R_lower ho0 (below_size (sB HB.out))); have n1_ := am (below_step (sB HB.out) hb); clear HB; have HO336 := n0_; have HB := n1_; clear n0_ n1_; (try clear hb); (try clear hb2); (try clear hk); (try clear hi); (try clear ho0)) | ((with_reducible refine gate_dst (N := 4) rfl ?_); (try (refine gate_guard (by rfl) ?_; dsimp only)); refine box_event ?hg (N := 4) ?hd (cs := #[.int .i64 0, .int .i64 0, .int .i64 0]) (t := 86) ?hr ?_; (case hd => rfl); (case hg => rfl); (case hr => first | (go_simp; done) | (go_simp; rfl)); intro gb340 hg w110 hbox hb; have n0_ := am (Kd.R_below (rB HO336.out) hb); have q_ := hbx_ (sB HB.out) hg hb; have n1_ := q_.1; have n2_ := am (hbox); have n3_ := q_.2; have n4_ := n3_; clear HO336; clear HB; have HO336 := n0_; have HB := n1_; have BK340 := n2_; have GW340 := n3_; have GE340 := n4_; clear n0_ n1_ n2_ n3_ n4_; clear hb hbox hg; obtain ⟨hcz111_0, hcz111_1, hcz111_2, hfz111_0, hfz111_1, hfz111_2⟩ := blk3 BK340.out; obtain ⟨Ao112, co112, eo112⟩ := Kd.R_slice HO336.out; subst eo112) | ((with_reducible refine gate_callee (f := 75) rfl ?_); refine goesL_ (some 20) rfl rfl Try.func75 (by kernel_rfl) rfl #[.slice Ao112 t334.length co112, .agg #[.int .i64 t337, .int .i64 t338, .int .i64 t339]] rfl (by (try simp only [List.map_toArray, List.map_cons, List.map_nil]); first | done | rfl | (simp only [List.length_drop, List.length_take]; rfl)) ?_; (with_reducible refine (impl_FollowRequest.calls k _ _ t334 t337 t338 t339 t341 t342 t343 t344 _ ?side1 ?side2 A5.out).mono ?_); (case side1 => refine (Kd.R_reads' (e := 35) (base := w.heap.size) (ok := fun k_ => True) (n := t334.length) (c := co112) ?_).2.2; exact (by (with_reducible repeat (first | apply Kd.R_alloc | apply Kd.R_drewN | apply Kd.R_drew)); exact (Kd.R_mono (Kd.R_far (p := ⟨gb340, 2, none⟩) (Kd.R_far (p := ⟨gb340, 1, none⟩) (Kd.R_far (p := ⟨gb340, 0, none⟩) (Kd.R_types HO336.out BK340.out (by decide)) (fun _ hk => hk.2) (.int .i64 t337)) (fun _ hk => hk.2) (.int .i64 t338)) (fun _ hk => hk.2) (.int .i64 t339)) (fun _ h_ => h_.1)))); (case side2 => exact (Kd.R_reads' HO336.out).2.1); rintro e w113 ⟨v345, rfl, ho0, hb⟩; refine ⟨_, rfl, ?_⟩; have n0_ := am (Kd.R_below (by (with_reducible repeat (first | apply Kd.R_alloc | apply Kd.R_drewN | apply Kd.R_drew)); exact (Kd.R_mono (Kd.R_far (p := ⟨gb340, 2, none⟩) (Kd.R_far (p := ⟨gb340, 1, none⟩) (Kd.R_far (p := ⟨gb340, 0, none⟩) (Kd.R_types HO336.out BK340.out (by decide)) (fun _ hk => hk.2) (.int .i64 t337)) (fun _ hk => hk.2) (.int .i64 t338)) (fun _ hk => hk.2) (.int .i64 t339)) (fun _ h_ => h_.1))) hb); have n1_ := am (Kd.R_lower ho0 (below_size (sB HB.out))); have n2_ := am (blk_below (g := gb340) (o := .cells #[.int .i64 t337, .int .i64 t338, .int .i64 t339] 86 (0, 0)) (by refine bB ?_; refine blk_put (cs := #[.int .i64 t337, .int .i64 t338, .int .i64 0]) ?_ 2 _ rfl; refine bB ?_; refine blk_put (cs := #[.int .i64 t337, .int .i64 0, .int .i64 0]) ?_ 1 _ rfl; refine bB ?_; refine blk_put (cs := #[.int .i64 0, .int .i64 0, .int .i64 0]) ?_ 0 _ rfl; refine bB ?_; exact BK340.out) hb); have n3_ := am (below_step (sB HB.out) hb); clear HO336; clear BK340; clear HB; have HO336 := n0_; have HO346 := n1_; have BK340 := n2_; have HB := n3_; clear n0_ n1_ n2_ n3_; (try clear hb); (try clear hb2); (try clear hk); (try clear hi); (try clear ho0)) | ((with_reducible refine gate_dst (N := 5) rfl ?_); (try (refine gate_guard (by rfl) ?_; dsimp only)); refine box_event ?hg (N := 5) ?hd (cs := #[.int .i64 0, .int .i64 0, .int .i64 0, .slice none 0 0]) (t := 105) ?hr ?_; (case hd => rfl); (case hg => rfl); (case hr => first | (go_simp; done) | (go_simp; rfl)); intro gb347 hg w114 hbox hb; have n0_ := am (Kd.R_below (rB HO336.out) hb); have n1_ := am (Kd.R_below (rB HO346.out) hb); have n2_ := am (blk_below (bB BK340.out) hb); have q_ := hbx_ (sB HB.out) hg hb; have n3_ := q_.1; have n4_ := am (hbox); have n5_ := q_.2; have n6_ := n5_; have n7_ := am ((by rw [hg]; exact Nat.ne_of_lt (blk_lt (g := gb340) (o := .cells #[.int .i64 t337, .int .i64 t338, .int .i64 t339] 86 (0, 0)) (bB BK340.out)) : gb340 ≠ gb347)); have n8_ := am ((by rw [hg]; exact Nat.ne_of_gt (blk_lt (g := gb340) (o := .cells #[.int .i64 t337, .int .i64 t338, .int .i64 t339] 86 (0, 0)) (bB BK340.out)) : gb347 ≠ gb340)); clear HO336; clear HO346; clear BK340; clear HB; have HO336 := n0_; have HO346 := n1_; have BK340 := n2_; have HB := n3_; have BK347 := n4_; have GW347 := n5_; have GE347 := n6_; have NB340_347 := n7_; have NB347_340 := n8_; clear n0_ n1_ n2_ n3_ n4_ n5_ n6_ n7_ n8_; clear hb hbox hg; have hnb115 := NB347_340.out; have hnc115 := NB340_347.out; obtain ⟨hcz116_0, hcz116_1, hcz116_2, hcz116_3, hfz116_0, hfz116_1, hfz116_2, hfz116_3⟩ := blk4 BK347.out; obtain ⟨Ao117, co117, eo117⟩ := Kd.R_slice HO346.out; subst eo117))
     have n0_ : Aside0 (Kd.R k35 35 ((((w114.setCell ⟨gb347, 0, none⟩ (.int .i64 t341)).setCell ⟨gb347, 1, none⟩ (.int .i64 t342)).setCell ⟨gb347, 2, none⟩ (.int .i64 t343)).setCell ⟨gb347, 3, none⟩ (.slice Ao117 t344.length co117)) w.heap.size (fun _ => True) (.slice Ao112 t334.length co112) t334) := ⟨by (with_reducible repeat (first | apply Kd.R_alloc | apply Kd.R_drewN | apply Kd.R_drew)); exact Kd.R_mono (Kd.R_far (p := ⟨gb347, 3, none⟩) (Kd.R_far (p := ⟨gb347, 2, none⟩) (Kd.R_far (p := ⟨gb347, 1, none⟩) (Kd.R_far (p := ⟨gb347, 0, none⟩) (Kd.R_types HO336.out BK347.out (by decide)) (fun _ hk => hk.2) (.int .i64 t341)) (fun _ hk => hk.2) (.int .i64 t342)) (fun _ hk => hk.2) (.int .i64 t343)) (fun _ hk => hk.2) (.slice Ao117 t344.length co117)) (fun _ hk => trivial)⟩
     have n1_ : Aside0 (Kd.R k33 33 ((((w114.setCell ⟨gb347, 0, none⟩ (.int .i64 t341)).setCell ⟨gb347, 1, none⟩ (.int .i64 t342)).setCell ⟨gb347, 2, none⟩ (.int .i64 t343)).setCell ⟨gb347, 3, none⟩ (.slice Ao117 t344.length co117)) w.heap.size (fun _ => True) (.slice Ao117 t344.length co117) t344) := ⟨by (with_reducible repeat (first | apply Kd.R_alloc | apply Kd.R_drewN | apply Kd.R_drew)); exact Kd.R_mono (Kd.R_far (p := ⟨gb347, 3, none⟩) (Kd.R_far (p := ⟨gb347, 2, none⟩) (Kd.R_far (p := ⟨gb347, 1, none⟩) (Kd.R_far (p := ⟨gb347, 0, none⟩) (Kd.R_types HO346.out BK347.out (by decide)) (fun _ hk => hk.2) (.int .i64 t341)) (fun _ hk => hk.2) (.int .i64 t342)) (fun _ hk => hk.2) (.int .i64 t343)) (fun _ hk => hk.2) (.slice Ao117 t344.length co117)) (fun _ hk => trivial)⟩
     have n2_ : Aside0 (((((w114.setCell ⟨gb347, 0, none⟩ (.int .i64 t341)).setCell ⟨gb347, 1, none⟩ (.int .i64 t342)).setCell ⟨gb347, 2, none⟩ (.int .i64 t343)).setCell ⟨gb347, 3, none⟩ (.slice Ao117 t344.length co117)).heap[gb340]? = some (.cells #[.int .i64 t337, .int .i64 t338, .int .i64 t339] 86 (0, 0))) := ⟨by refine bB ?_; refine blk_far ?_ NB340_347.out _; refine bB ?_; refine blk_far ?_ NB340_347.out _; refine bB ?_; refine blk_far ?_ NB340_347.out _; refine bB ?_; refine blk_far ?_ NB340_347.out _; refine bB ?_; exact BK340.out⟩
     have n3_ : Aside0 (((((w114.setCell ⟨gb347, 0, none⟩ (.int .i64 t341)).setCell ⟨gb347, 1, none⟩ (.int .i64 t342)).setCell ⟨gb347, 2, none⟩ (.int .i64 t343)).setCell ⟨gb347, 3, none⟩ (.slice Ao117 t344.length co117)).heap[gb347]? = some (.cells #[.int .i64 t341, .int .i64 t342, .int .i64 t343, .slice Ao117 t344.length co117] 105 (0, 0))) := ⟨by refine bB ?_; refine blk_put (cs := #[.int .i64 t341, .int .i64 t342, .int .i64 t343, .slice none 0 0]) ?_ 3 _ rfl; refine bB ?_; refine blk_put (cs := #[.int .i64 t341, .int .i64 t342, .int .i64 0, .slice none 0 0]) ?_ 2 _ rfl; refine bB ?_; refine blk_put (cs := #[.int .i64 t341, .int .i64 0, .int .i64 0, .slice none 0 0]) ?_ 1 _ rfl; refine bB ?_; refine blk_put (cs := #[.int .i64 0, .int .i64 0, .int .i64 0, .slice none 0 0]) ?_ 0 _ rfl; refine bB ?_; exact BK347.out⟩
     have n4_ : Aside0 (Below w.heap.size w ((((w114.setCell ⟨gb347, 0, none⟩ (.int .i64 t341)).setCell ⟨gb347, 1, none⟩ (.int .i64 t342)).setCell ⟨gb347, 2, none⟩ (.int .i64 t343)).setCell ⟨gb347, 3, none⟩ (.slice Ao117 t344.length co117))) := ⟨sB HB.out⟩
     (try clear HO336)
     (try clear HO346)
     (try clear BK340)
     (try clear BK347)
     (try clear HB)
     generalize ((((w114.setCell ⟨gb347, 0, none⟩ (.int .i64 t341)).setCell ⟨gb347, 1, none⟩ (.int .i64 t342)).setCell ⟨gb347, 2, none⟩ (.int .i64 t343)).setCell ⟨gb347, 3, none⟩ (.slice Ao117 t344.length co117)) = w118 at n0_ n1_ n2_ n3_ n4_ ⊢
     have HO336 := n0_
     have HO346 := n1_
     have BK340 := n2_
     have BK347 := n3_
     have HB := n4_
     clear n0_ n1_ n2_ n3_ n4_
     replace HO336 := am (Kd.R_drew HO336.out)
     replace HO346 := am (Kd.R_drew HO346.out)
     replace BK340 := am (blk_drew BK340.out)
     replace BK347 := am (blk_drew BK347.out)
     replace HB := am (below_drew1 HB.out)
     refine start_ (n := 5) (S := fun w' => w'.cell? ⟨gb340, 0, none⟩ = some (.int .i64 t337) ∧ w'.cell? ⟨gb340, 1, none⟩ = some (.int .i64 t338) ∧ w'.cell? ⟨gb340, 2, none⟩ = some (.int .i64 t339)) (ds := []) #[false, false, false, false, false] (by kernel_rfl) rfl rfl ⟨(blk_cell BK340.out 0).trans rfl, (blk_cell BK340.out 1).trans rfl, (blk_cell BK340.out 2).trans rfl⟩ (fun hHeld => ?_)
     generalize w118.drew = w119 at HO336 HO346 BK340 BK347 HB hHeld ⊢
     refine take_ (i := 0) (N := some 21) (v := ?_) (a' := ?_) #[true, false, false, false, false] rfl rfl (by kernel_rfl) (fun _ _ _ h => h) (Or.inl ⟨by rfl, ?_⟩) hHeld ?_ ?_
     rotate_left
     ·rintro w' ⟨s0, s1, s2⟩
      go_simp
      with_reducible rfl
     rotate_left
     ·simp only [Act.put, List.setIfInBounds_toArray, List.set_cons_zero, List.set_cons_succ, i64_w, i32_w]
      rfl
     refine take_ (i := 2) (N := some 23) (v := ?_) (a' := ?_) #[true, false, true, false, false] rfl rfl (by kernel_rfl) (fun _ _ _ h => h) (Or.inl ⟨by rfl, ?_⟩) hHeld ?_ ?_
     rotate_left
     ·rintro w' ⟨s0, s1, s2⟩
      go_simp
      with_reducible rfl
     rotate_left
     ·simp only [Act.put, List.setIfInBounds_toArray, List.set_cons_zero, List.set_cons_succ, i64_w, i32_w]
      rfl
     refine one_ (i := 1) (N := some 22) #[true, true, true, false, false] rfl rfl (by kernel_rfl) (by decide) (fun K hK => ?_)
     refine goes_ Try.func63 (by kernel_rfl) rfl #[.agg #[.int .i64 t337, .int .i64 t338, .int .i64 t339]] (by rfl) rfl rfl (by (try simp only [List.map_toArray, List.map_cons, List.map_nil]); first | done | rfl | (simp only [List.length_drop, List.length_take]; rfl)) ?_
     with_reducible refine (impl_IsRequest.calls t337 t338 t339 t348 _ A6.out).mono ?_
     rintro e w120 ⟨rfl, hb⟩
     refine ⟨_, rfl, ?_⟩
     replace HO336 := am (Kd.R_below (rB HO336.out) hb)
     replace HO346 := am (Kd.R_below (rB HO346.out) hb)
     replace BK340 := am (blk_below (bB BK340.out) hb)
     replace BK347 := am (blk_below (bB BK347.out) hb)
     replace HB := am (below_step (sB HB.out) hb)
     (try clear hb)
     (try clear hb2)
     (try clear hk)
     (try clear hi)
     refine hK.out _ _ ⟨(blk_cell BK340.out 0).trans rfl, (blk_cell BK340.out 1).trans rfl, (blk_cell BK340.out 2).trans rfl⟩ (fun hHeld => ?_)
     clear hK K
     refine norm_ (a' := ?_) ?_ ?_
     rotate_left
     ·show Act.put _ (some 22) _ = _
      simp only [Act.put, List.setIfInBounds_toArray, List.set_cons_zero, List.set_cons_succ, i64_w, i32_w]
      rfl
     refine one_ (i := 3) (N := some 24) #[true, true, true, true, false] rfl rfl (by kernel_rfl) (by decide) (fun K hK => ?_)
     refine goes_ Try.func80 (by kernel_rfl) rfl #[.agg #[.int .i64 t337, .int .i64 t338, .int .i64 t339]] (by rfl) rfl rfl (by (try simp only [List.map_toArray, List.map_cons, List.map_nil]); first | done | rfl | (simp only [List.length_drop, List.length_take]; rfl)) ?_
     with_reducible refine (spec_IsRequest.calls t337 t338 t339 t349 _ A7.out).mono ?_
     rintro e w121 ⟨rfl, hb⟩
     refine ⟨_, rfl, ?_⟩
     replace HO336 := am (Kd.R_below (rB HO336.out) hb)
     replace HO346 := am (Kd.R_below (rB HO346.out) hb)
     replace BK340 := am (blk_below (bB BK340.out) hb)
     replace BK347 := am (blk_below (bB BK347.out) hb)
     replace HB := am (below_step (sB HB.out) hb)
     (try clear hb)
     (try clear hb2)
     (try clear hk)
     (try clear hi)
     refine hK.out _ _ ⟨(blk_cell BK340.out 0).trans rfl, (blk_cell BK340.out 1).trans rfl, (blk_cell BK340.out 2).trans rfl⟩ (fun hHeld => ?_)
     clear hK K
     refine norm_ (a' := ?_) ?_ ?_
     rotate_left
     ·show Act.put _ (some 24) _ = _
      simp only [Act.put, List.setIfInBounds_toArray, List.set_cons_zero, List.set_cons_succ, i64_w, i32_w]
      rfl
     refine pure_ (i := 4) (N := some 25) (v := ?_) (a' := ?_) #[true, true, true, true, true] rfl rfl (by kernel_rfl) (fun _ _ _ h => h) (Or.inl ⟨by rfl, ?_⟩) ?_ ?_
     rotate_left
     ·intro w'
      go_simp
      with_reducible rfl
     rotate_left
     ·simp only [Act.put, List.setIfInBounds_toArray, List.set_cons_zero, List.set_cons_succ, i64_w, i32_w]
      rfl
     refine done_ (by kernel_rfl) ?_
     have hcz122_0 : w121.cell? ⟨gb340, 0, none⟩ = some (.int .i64 t337) := (blk_cell BK340.out 0).trans rfl
     have hcz122_1 : w121.cell? ⟨gb340, 1, none⟩ = some (.int .i64 t338) := (blk_cell BK340.out 1).trans rfl
     have hcz122_2 : w121.cell? ⟨gb340, 2, none⟩ = some (.int .i64 t339) := (blk_cell BK340.out 2).trans rfl
     have hfz122_0 := blk_frozen BK340.out 0
     have hfz122_1 := blk_frozen BK340.out 1
     have hfz122_2 := blk_frozen BK340.out 2
     try go_wp2_with (first | ((with_reducible refine gate_callee (f := 63) rfl ?_); refine goesL_ (some 27) rfl rfl Try.func63 (by kernel_rfl) rfl #[.agg #[.int .i64 t337, .int .i64 t338, .int .i64 t339]] rfl (by (try simp only [List.map_toArray, List.map_cons, List.map_nil]); first | done | rfl | (simp only [List.length_drop, List.length_take]; rfl)) ?_; (with_reducible refine (impl_IsRequest.calls t337 t338 t339 false _ A9.out).mono ?_); rintro e w123 ⟨rfl, hb⟩; refine ⟨_, rfl, ?_⟩; replace HO336 := am (Kd.R_below (rB HO336.out) hb); replace HO346 := am (Kd.R_below (rB HO346.out) hb); replace BK340 := am (blk_below (bB BK340.out) hb); replace BK347 := am (blk_below (bB BK347.out) hb); replace HB := am (below_step (sB HB.out) hb); (try clear hb); (try clear hb2); (try clear hk); (try clear hi); obtain ⟨hcz124_0, hcz124_1, hcz124_2, hcz124_3, hfz124_0, hfz124_1, hfz124_2, hfz124_3⟩ := blk4 BK347.out))
     go_ret
     exact ⟨by first | rfl | (simp [errW_none, errW_some] <;> rfl) | (simp [*, errW_none, errW_some] <;> rfl), sB HB.out⟩
    ·rw [if_neg c108] at H
     have c108b0 : (t341 == 0) = false := beq_eq_false_iff_ne.mpr c108
     have c108b1 : (t341 != 0) = true := bne_iff_ne.mpr c108
     exact absurd ((Option.some.inj H).trans HRT.out) (by decide)

/-- THE ONE PURE STATEMENT of laws_FnFollowed: yours. -/
def laws_FnFollowed.Pure : Prop := ∀ (l0 : List Int), l0.length ≤ maxLen → l0.length * 1 ≤ 140737488351232 → (∀ x ∈ l0, (Lit.int .u8 x).wf = true) → ∃ k, laws_FnFollowed.f k l0 = some true
theorem laws_FnFollowed.walk (P : laws_FnFollowed.Pure) (a0 : Option Addr) (len0 cap0 : Nat) (z0 : List Int) (w : World) (w0 : (a0 = none ∧ len0 = 0 ∧ cap0 = 0 ∧ z0 = []) ∨ ∃ x, a0 = some x ∧ len0 ≤ cap0 ∧ cap0 ≤ maxLen ∧ z0.length = cap0 ∧ (∀ i, i < z0.length → w.cell? (x.add i) = some (.int .u8 (z0.getD i 0))) ∧ ∀ n ∈ z0, (Lit.int .u8 n).wf = true) (y0 : len0 * 1 ≤ 140737488351232) :
  Calls Try.prog 14 #[.slice a0 len0 cap0] w fun e w' => e = .returned (.bool true) ∧ Below w.heap.size w w' := by
 obtain ⟨l0, rfl, hr0, hm0, hw0, hc0⟩ := ReadsInt.ofRowC w0
 obtain ⟨k, h⟩ := P l0 hm0 y0 hw0
 refine (laws_FnFollowed.calls k _ _ l0 true w (Kd.C_of_reads (d := (0 : Int)) (h1 := fun _ => rfl) hr0) hc0 h rfl).mono ?_
 rintro e w' ⟨rfl, hd⟩
 exact ⟨rfl, hd⟩

end Go.Proofs.Ytacgichgadoddaa.QK
