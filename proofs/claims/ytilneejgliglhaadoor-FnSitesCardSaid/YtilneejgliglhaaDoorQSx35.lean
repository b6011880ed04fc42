/- Go functions as Lean functions, each with its walk; printed by a program of this session (a scratch copy of print.py that follows nested field addresses and tells a law for the answer true). -/
import Derived.Test.YtilneejgliglhaaDoorQSx0
import Derived.Test.YtilneejgliglhaaDoorQSx18
import Derived.Test.YtilneejgliglhaaDoorQSx28
import Derived.Test.YtilneejgliglhaaDoorQSx29
import Derived.Test.YtilneejgliglhaaDoorQSx30
import Derived.Test.YtilneejgliglhaaDoorQSx34
import Derived.Test.YtilneejgliglhaaDoorQSxM0
namespace Go.Proofs.YtilneejgliglhaaDoor.QS
open Go.RowKit Go.Proofs.YtilneejgliglhaaDoorW.PrintWords Go.Proofs.YtilneejgliglhaaDoorW.PrintLast Go.Proofs.YtilneejgliglhaaDoorW.PrintMore Go.Proofs.YtilneejgliglhaaDoor.Short
attribute [local go_sem] max2_int min2_int max_two min_two max_three min_three max_four min_four   -- for this text's walks alone
set_option linter.unusedVariables false
set_option linter.unusedSimpArgs false

/-! ### laws_FnSites: function 5 -/
mutual
def laws_FnSites.j0 : Nat → Bool → Bool → Int → Int → Int → Int → Int → Int → Option (Bool)
  | 0, _, _, _, _, _, _, _, _ => none
  | k + 1, x6, x7, x225000, x225001, x226000, x226001, x230000, x230001 => laws_FnSites.l0 k x6 x7 false 0 x225000 x225001 x226000 x226001 x230000 x230001
def laws_FnSites.l0 : Nat → Bool → Bool → Bool → Int → Int → Int → Int → Int → Int → Int → Option (Bool)
  | 0, _, _, _, _, _, _, _, _, _, _ => none
  | k + 1, x6, x7, x8, x9, x225000, x225001, x226000, x226001, x230000, x230001 => if x9 < 90 then ((impl_MatchSite.f x225000 x225001 (wrap64 (1 + (wrap64 (Int.tdiv x9 10)))) (Int.tmod x9 10)).bind fun t238 => (if t238 = true then ((impl_MatchSite.f x226000 x226001 (wrap64 (1 + (wrap64 (Int.tdiv x9 10)))) (Int.tmod x9 10)).bind fun t239 => (laws_FnSites.j2 k x6 x7 x8 x9 t239 x225000 x225001 x226000 x226001 x230000 x230001 (wrap64 (1 + (wrap64 (Int.tdiv x9 10)))) (Int.tmod x9 10))) else (laws_FnSites.j2 k x6 x7 x8 x9 false x225000 x225001 x226000 x226001 x230000 x230001 (wrap64 (1 + (wrap64 (Int.tdiv x9 10)))) (Int.tmod x9 10)))) else (if (x8 == x6) = true then ((impl_IsNarrower.f x225000 x225001 x226000 x226001).bind fun t234 => (if (x7 == t234) = true then ((impl_PatternText.f x225000 x225001).bind fun t235 => ((impl_IsPattern.f x225000 x225001).bind fun t236 => (some ((t235.toList != ([] : List UInt8)) == t236)))) else (some false))) else (some false))
def laws_FnSites.j2 : Nat → Bool → Bool → Bool → Int → Bool → Int → Int → Int → Int → Int → Int → Int → Int → Option (Bool)
  | 0, _, _, _, _, _, _, _, _, _, _, _, _, _ => none
  | k + 1, x6, x7, x8, x9, x11, x225000, x225001, x226000, x226001, x230000, x230001, x238000, x238001 => if x6 = true then ((impl_MatchSite.f x230000 x230001 x238000 x238001).bind fun t240 => (laws_FnSites.j3 k x6 x7 x8 x9 x11 (x11 != t240) x225000 x225001 x226000 x226001 x230000 x230001 x238000 x238001)) else (laws_FnSites.j3 k x6 x7 x8 x9 x11 (x11 != false) x225000 x225001 x226000 x226001 x230000 x230001 x238000 x238001)
def laws_FnSites.j3 : Nat → Bool → Bool → Bool → Int → Bool → Bool → Int → Int → Int → Int → Int → Int → Int → Int → Option (Bool)
  | 0, _, _, _, _, _, _, _, _, _, _, _, _, _, _ => none
  | k + 1, x6, x7, x8, x9, x11, x61, x225000, x225001, x226000, x226001, x230000, x230001, x238000, x238001 => if x61 = true then (some false) else (if x8 = true then (if x7 = true then ((impl_MatchSite.f x225000 x225001 x238000 x238001).bind fun t241 => (if t241 = true then ((impl_MatchSite.f x226000 x226001 x238000 x238001).bind fun t242 => (laws_FnSites.l0 k x6 t242 true (wrap64 (x9 + 1)) x225000 x225001 x226000 x226001 x230000 x230001)) else (laws_FnSites.l0 k x6 true true (wrap64 (x9 + 1)) x225000 x225001 x226000 x226001 x230000 x230001))) else (laws_FnSites.l0 k x6 false true (wrap64 (x9 + 1)) x225000 x225001 x226000 x226001 x230000 x230001)) else (if x7 = true then ((impl_MatchSite.f x225000 x225001 x238000 x238001).bind fun t243 => (if t243 = true then ((impl_MatchSite.f x226000 x226001 x238000 x238001).bind fun t244 => (laws_FnSites.l0 k x6 t244 x11 (wrap64 (x9 + 1)) x225000 x225001 x226000 x226001 x230000 x230001)) else (laws_FnSites.l0 k x6 true x11 (wrap64 (x9 + 1)) x225000 x225001 x226000 x226001 x230000 x230001))) else (laws_FnSites.l0 k x6 false x11 (wrap64 (x9 + 1)) x225000 x225001 x226000 x226001 x230000 x230001)))
end
def laws_FnSites.f (k : Nat) (l0 : List Int) : Option (Bool) := (laws_big.f l0).bind fun t219 => (if t219 = true then (some true) else ((spec_DrawMeetPatterns.f k l0).bind fun bt220 => ((impl_MeetPatterns.f k bt220.1 bt220.2.1 bt220.2.2.1 bt220.2.2.2).bind fun bt226 => ((impl_IsPattern.f bt220.1 bt220.2.1).bind fun t230 => ((spec_IsPattern.f bt220.1 bt220.2.1).bind fun t231 => (if (t230 != t231) = true then (some false) else ((impl_IsPattern.f bt220.1 bt220.2.1).bind fun t232 => (if t232 = true then ((impl_IsPattern.f bt220.2.2.1 bt220.2.2.2).bind fun t233 => (laws_FnSites.j0 k bt226.2.2 t233 bt220.1 bt220.2.1 bt220.2.2.1 bt220.2.2.2 bt226.1 bt226.2.1)) else (laws_FnSites.j0 k bt226.2.2 false bt220.1 bt220.2.1 bt220.2.2.1 bt220.2.2.2 bt226.1 bt226.2.1)))))))))
theorem laws_FnSites.mono_l : ∀ k, (∀ y0 y1 y2 y3 y4 y5 y6 y7, LeO (laws_FnSites.j0 k y0 y1 y2 y3 y4 y5 y6 y7) (laws_FnSites.j0 (k + 1) y0 y1 y2 y3 y4 y5 y6 y7)) ∧ (∀ y0 y1 y2 y3 y4 y5 y6 y7 y8 y9, LeO (laws_FnSites.l0 k y0 y1 y2 y3 y4 y5 y6 y7 y8 y9) (laws_FnSites.l0 (k + 1) y0 y1 y2 y3 y4 y5 y6 y7 y8 y9)) ∧ (∀ y0 y1 y2 y3 y4 y5 y6 y7 y8 y9 y10 y11 y12, LeO (laws_FnSites.j2 k y0 y1 y2 y3 y4 y5 y6 y7 y8 y9 y10 y11 y12) (laws_FnSites.j2 (k + 1) y0 y1 y2 y3 y4 y5 y6 y7 y8 y9 y10 y11 y12)) ∧ (∀ y0 y1 y2 y3 y4 y5 y6 y7 y8 y9 y10 y11 y12 y13, LeO (laws_FnSites.j3 k y0 y1 y2 y3 y4 y5 y6 y7 y8 y9 y10 y11 y12 y13) (laws_FnSites.j3 (k + 1) y0 y1 y2 y3 y4 y5 y6 y7 y8 y9 y10 y11 y12 y13))
  | 0 => ⟨fun _ _ _ _ _ _ _ _ r h => by simp [laws_FnSites.j0] at h, fun _ _ _ _ _ _ _ _ _ _ r h => by simp [laws_FnSites.l0] at h, fun _ _ _ _ _ _ _ _ _ _ _ _ _ r h => by simp [laws_FnSites.j2] at h, fun _ _ _ _ _ _ _ _ _ _ _ _ _ _ r h => by simp [laws_FnSites.j3] at h⟩
  | k + 1 => by
    obtain ⟨ih0, ih1, ih2, ih3⟩ := laws_FnSites.mono_l k
    refine ⟨?_, ?_, ?_, ?_⟩
    · intro y0 y1 y2 y3 y4 y5 y6 y7
      unfold laws_FnSites.j0
      repeat' first
      | (with_reducible exact ih0 _ _ _ _ _ _ _ _)
      | (with_reducible exact ih1 _ _ _ _ _ _ _ _ _ _)
      | (with_reducible exact ih2 _ _ _ _ _ _ _ _ _ _ _ _ _)
      | (with_reducible exact ih3 _ _ _ _ _ _ _ _ _ _ _ _ _ _)
      | (with_reducible exact impl_MeetPatterns.mono _ _ _ _ _)
      | (with_reducible exact spec_DrawMeetPatterns.mono _ _)
      | (with_reducible exact LeO.refl _)
      | (with_reducible exact LeO.none _)
      | (with_reducible refine LeO.ite ?_ ?_)
      | (with_reducible refine LeO.bind ?_ (fun _ => ?_))
      | exact ih0 _ _ _ _ _ _ _ _
      | exact ih1 _ _ _ _ _ _ _ _ _ _
      | exact ih2 _ _ _ _ _ _ _ _ _ _ _ _ _
      | exact ih3 _ _ _ _ _ _ _ _ _ _ _ _ _ _
      | exact impl_MeetPatterns.mono _ _ _ _ _
      | exact spec_DrawMeetPatterns.mono _ _
      | exact LeO.none _
      | refine LeO.ite ?_ ?_
      | refine LeO.bind ?_ (fun _ => ?_)
    · intro y0 y1 y2 y3 y4 y5 y6 y7 y8 y9
      unfold laws_FnSites.l0
      repeat' first
      | (with_reducible exact ih0 _ _ _ _ _ _ _ _)
      | (with_reducible exact ih1 _ _ _ _ _ _ _ _ _ _)
      | (with_reducible exact ih2 _ _ _ _ _ _ _ _ _ _ _ _ _)
      | (with_reducible exact ih3 _ _ _ _ _ _ _ _ _ _ _ _ _ _)
      | (with_reducible exact impl_MeetPatterns.mono _ _ _ _ _)
      | (with_reducible exact spec_DrawMeetPatterns.mono _ _)
      | (with_reducible exact LeO.refl _)
      | (with_reducible exact LeO.none _)
      | (with_reducible refine LeO.ite ?_ ?_)
      | (with_reducible refine LeO.bind ?_ (fun _ => ?_))
      | exact ih0 _ _ _ _ _ _ _ _
      | exact ih1 _ _ _ _ _ _ _ _ _ _
      | exact ih2 _ _ _ _ _ _ _ _ _ _ _ _ _
      | exact ih3 _ _ _ _ _ _ _ _ _ _ _ _ _ _
      | exact impl_MeetPatterns.mono _ _ _ _ _
      | exact spec_DrawMeetPatterns.mono _ _
      | exact LeO.none _
      | refine LeO.ite ?_ ?_
      | refine LeO.bind ?_ (fun _ => ?_)
    · intro y0 y1 y2 y3 y4 y5 y6 y7 y8 y9 y10 y11 y12
      unfold laws_FnSites.j2
      repeat' first
      | (with_reducible exact ih0 _ _ _ _ _ _ _ _)
      | (with_reducible exact ih1 _ _ _ _ _ _ _ _ _ _)
      | (with_reducible exact ih2 _ _ _ _ _ _ _ _ _ _ _ _ _)
      | (with_reducible exact ih3 _ _ _ _ _ _ _ _ _ _ _ _ _ _)
      | (with_reducible exact impl_MeetPatterns.mono _ _ _ _ _)
      | (with_reducible exact spec_DrawMeetPatterns.mono _ _)
      | (with_reducible exact LeO.refl _)
      | (with_reducible exact LeO.none _)
      | (with_reducible refine LeO.ite ?_ ?_)
      | (with_reducible refine LeO.bind ?_ (fun _ => ?_))
      | exact ih0 _ _ _ _ _ _ _ _
      | exact ih1 _ _ _ _ _ _ _ _ _ _
      | exact ih2 _ _ _ _ _ _ _ _ _ _ _ _ _
      | exact ih3 _ _ _ _ _ _ _ _ _ _ _ _ _ _
      | exact impl_MeetPatterns.mono _ _ _ _ _
      | exact spec_DrawMeetPatterns.mono _ _
      | exact LeO.none _
      | refine LeO.ite ?_ ?_
      | refine LeO.bind ?_ (fun _ => ?_)
    · intro y0 y1 y2 y3 y4 y5 y6 y7 y8 y9 y10 y11 y12 y13
      unfold laws_FnSites.j3
      repeat' first
      | (with_reducible exact ih0 _ _ _ _ _ _ _ _)
      | (with_reducible exact ih1 _ _ _ _ _ _ _ _ _ _)
      | (with_reducible exact ih2 _ _ _ _ _ _ _ _ _ _ _ _ _)
      | (with_reducible exact ih3 _ _ _ _ _ _ _ _ _ _ _ _ _ _)
      | (with_reducible exact impl_MeetPatterns.mono _ _ _ _ _)
      | (with_reducible exact spec_DrawMeetPatterns.mono _ _)
      | (with_reducible exact LeO.refl _)
      | (with_reducible exact LeO.none _)
      | (with_reducible refine LeO.ite ?_ ?_)
      | (with_reducible refine LeO.bind ?_ (fun _ => ?_))
      | exact ih0 _ _ _ _ _ _ _ _
      | exact ih1 _ _ _ _ _ _ _ _ _ _
      | exact ih2 _ _ _ _ _ _ _ _ _ _ _ _ _
      | exact ih3 _ _ _ _ _ _ _ _ _ _ _ _ _ _
      | exact impl_MeetPatterns.mono _ _ _ _ _
      | exact spec_DrawMeetPatterns.mono _ _
      | exact LeO.none _
      | refine LeO.ite ?_ ?_
      | refine LeO.bind ?_ (fun _ => ?_)
theorem laws_FnSites.mono : ∀ a0 k, LeO (laws_FnSites.f k a0) (laws_FnSites.f (k + 1) a0) := by
  intro a0 k
  obtain ⟨ih0, ih1, ih2, ih3⟩ := laws_FnSites.mono_l k
  unfold laws_FnSites.f
  repeat' first
      | (with_reducible exact ih0 _ _ _ _ _ _ _ _)
      | (with_reducible exact ih1 _ _ _ _ _ _ _ _ _ _)
      | (with_reducible exact ih2 _ _ _ _ _ _ _ _ _ _ _ _ _)
      | (with_reducible exact ih3 _ _ _ _ _ _ _ _ _ _ _ _ _ _)
      | (with_reducible exact impl_MeetPatterns.mono _ _ _ _ _)
      | (with_reducible exact spec_DrawMeetPatterns.mono _ _)
      | (with_reducible exact LeO.refl _)
      | (with_reducible exact LeO.none _)
      | (with_reducible refine LeO.ite ?_ ?_)
      | (with_reducible refine LeO.bind ?_ (fun _ => ?_))
      | exact ih0 _ _ _ _ _ _ _ _
      | exact ih1 _ _ _ _ _ _ _ _ _ _
      | exact ih2 _ _ _ _ _ _ _ _ _ _ _ _ _
      | exact ih3 _ _ _ _ _ _ _ _ _ _ _ _ _ _
      | exact impl_MeetPatterns.mono _ _ _ _ _
      | exact spec_DrawMeetPatterns.mono _ _
      | exact LeO.none _
      | refine LeO.ite ?_ ?_
      | refine LeO.bind ?_ (fun _ => ?_)
def laws_FnSites.T18 : Bool × List (List Nat × List Nat) := (true, [([], []), ([], []), ([0, 1], [0, 1]), ([2], [2]), ([3], [3]), ([3], [3]), ([3], [3]), ([5, 6, 3, 3], [3, 5, 6]), ([4, 7, 3], [3, 4, 7]), ([3, 8], [3, 8]), ([9, 7], [9]), ([10], [10]), ([11, 10, 10], [10, 11]), ([12, 10], [10, 12]), ([10], [10]), ([14, 12, 10], [10, 14]), ([13, 15, 10], [10, 13, 15]), ([10, 16], [10, 16]), ([17, 15, 0, 1, 2, 3, 4, 5, 6, 7, 8, 9, 10, 11, 12, 13, 14, 15, 16, 17], [17])])
def laws_FnSites.B18 : List Nat := [0, 0, 3, 7, 15, 15, 15, 111, 255, 511, 1023, 2047, 4095, 8191, 2047, 24575, 65535, 131071, 262143]
theorem laws_FnSites.tab18 : rtab .any (opsOf Tryd.f5 18) = laws_FnSites.T18 := by kernel_rfl
theorem laws_FnSites.bits18 : waitsOk laws_FnSites.T18.2 laws_FnSites.B18 = true := by kernel_rfl
set_option maxHeartbeats 8000000 in
set_option maxRecDepth 100000 in
theorem laws_FnSites.calls (k : Nat) (A0 : Option Addr) (c0 : Nat) (l0 : List Int) (r : Bool) (w : World) (hr0 : Kd.C (Kd.int .u8) w A0 l0.length l0) (hc0 : l0.length ≤ c0) (h : laws_FnSites.f k l0 = some r) (hr_ : r = true) :
    Calls Tryd.prog 5 #[.slice A0 l0.length c0] w fun e w' => e = .returned (.bool r) ∧ Below w.heap.size w w' := by
  have HRT := Aside0.mk hr_
  clear hr_
  have hu25 := Tryd.underlying25
  have hu37 := Tryd.underlying37
  have HR0 := Aside0.mk hr0
  have HC0 := Aside0.mk hc0
  clear hr0 hc0
  have HB := am (Below.refl w.heap.size w)
  have H : ((laws_big.f l0).bind fun t219 => (if t219 = true then (some true) else ((spec_DrawMeetPatterns.f k l0).bind fun bt220 => ((impl_MeetPatterns.f k bt220.1 bt220.2.1 bt220.2.2.1 bt220.2.2.2).bind fun bt226 => ((impl_IsPattern.f bt220.1 bt220.2.1).bind fun t230 => ((spec_IsPattern.f bt220.1 bt220.2.1).bind fun t231 => (if (t230 != t231) = true then (some false) else ((impl_IsPattern.f bt220.1 bt220.2.1).bind fun t232 => (if t232 = true then ((impl_IsPattern.f bt220.2.2.1 bt220.2.2.2).bind fun t233 => (laws_FnSites.j0 k bt226.2.2 t233 bt220.1 bt220.2.1 bt220.2.2.1 bt220.2.2.2 bt226.1 bt226.2.1)) else (laws_FnSites.j0 k bt226.2.2 false bt220.1 bt220.2.1 bt220.2.2.1 bt220.2.2.2 bt226.1 bt226.2.1)))))))))) = some r := h
  clear h
  replace H := Option.bind_eq_some_iff.mp H
  obtain ⟨t219, A20, H⟩ := H
  replace H : (if t219 = true then (some true) else ((spec_DrawMeetPatterns.f k l0).bind fun bt220 => ((impl_MeetPatterns.f k bt220.1 bt220.2.1 bt220.2.2.1 bt220.2.2.2).bind fun bt226 => ((impl_IsPattern.f bt220.1 bt220.2.1).bind fun t230 => ((spec_IsPattern.f bt220.1 bt220.2.1).bind fun t231 => (if (t230 != t231) = true then (some false) else ((impl_IsPattern.f bt220.1 bt220.2.1).bind fun t232 => (if t232 = true then ((impl_IsPattern.f bt220.2.2.1 bt220.2.2.2).bind fun t233 => (laws_FnSites.j0 k bt226.2.2 t233 bt220.1 bt220.2.1 bt220.2.2.1 bt220.2.2.2 bt226.1 bt226.2.1)) else (laws_FnSites.j0 k bt226.2.2 false bt220.1 bt220.2.1 bt220.2.2.1 bt220.2.2.2 bt226.1 bt226.2.1))))))))) = some r := H
  have A2 := Aside0.mk A20
  clear A20
  by_cases c3 : t219 = true
  · subst c3
    have H1 : (some true) = some r := by rw [if_pos rfl] at H; exact H
    clear H
    have H := H1
    clear H1
    obtain rfl := Option.some.inj H
    go_enter Tryd.func5, Tryd.ntmps5
    go_wp2_with (first | ((with_reducible refine gate_callee (f := 11) rfl ?_); refine goesL_ (some 13) rfl rfl Tryd.func11 (by kernel_rfl) rfl #[.slice A0 l0.length c0] rfl (by (try simp only [List.map_toArray, List.map_cons, List.map_nil]); first | done | rfl | (simp only [List.length_drop, List.length_take]; rfl)) ?_; (with_reducible refine (laws_big.calls _ _ l0 true _ ?side1 ?side2 A2.out).mono ?_); (case side1 => repeat (first | exact HR0.out | (with_reducible refine Kd.C_alloc ?_ _) | (with_reducible refine Kd.C_drewN ?_ _) | (with_reducible refine Kd.C_drew ?_))); (case side2 => exact HC0.out); rintro e w' ⟨rfl, ⟨nd, rfl⟩⟩; refine ⟨_, rfl, ?_⟩))
    go_ret
    exact ⟨by first | rfl | (simp [errW_none, errW_some] <;> rfl) | (simp [*, errW_none, errW_some] <;> rfl), by repeat (first | (with_reducible first | exact HB.out | apply below_alloc | apply pw_below_drewN | apply below_drew1) | exact HB.out)⟩
  · replace c3 := Bool.eq_false_iff.mpr c3
    subst c3
    have H1 : ((spec_DrawMeetPatterns.f k l0).bind fun bt220 => ((impl_MeetPatterns.f k bt220.1 bt220.2.1 bt220.2.2.1 bt220.2.2.2).bind fun bt226 => ((impl_IsPattern.f bt220.1 bt220.2.1).bind fun t230 => ((spec_IsPattern.f bt220.1 bt220.2.1).bind fun t231 => (if (t230 != t231) = true then (some false) else ((impl_IsPattern.f bt220.1 bt220.2.1).bind fun t232 => (if t232 = true then ((impl_IsPattern.f bt220.2.2.1 bt220.2.2.2).bind fun t233 => (laws_FnSites.j0 k bt226.2.2 t233 bt220.1 bt220.2.1 bt220.2.2.1 bt220.2.2.2 bt226.1 bt226.2.1)) else (laws_FnSites.j0 k bt226.2.2 false bt220.1 bt220.2.1 bt220.2.2.1 bt220.2.2.2 bt226.1 bt226.2.1)))))))) = some r := by rw [if_neg (show ¬ (false = true) by decide)] at H; exact H
    clear H
    have H := H1
    clear H1
    replace H := Option.bind_eq_some_iff.mp H
    obtain ⟨⟨t220, t221, t222, t223⟩, A40, H⟩ := H
    replace H : ((impl_MeetPatterns.f k t220 t221 t222 t223).bind fun bt226 => ((impl_IsPattern.f t220 t221).bind fun t230 => ((spec_IsPattern.f t220 t221).bind fun t231 => (if (t230 != t231) = true then (some false) else ((impl_IsPattern.f t220 t221).bind fun t232 => (if t232 = true then ((impl_IsPattern.f t222 t223).bind fun t233 => (laws_FnSites.j0 k bt226.2.2 t233 t220 t221 t222 t223 bt226.1 bt226.2.1)) else (laws_FnSites.j0 k bt226.2.2 false t220 t221 t222 t223 bt226.1 bt226.2.1))))))) = some r := H
    have A4 := Aside0.mk A40
    clear A40
    replace H := Option.bind_eq_some_iff.mp H
    obtain ⟨⟨t226, t227, t228⟩, A50, H⟩ := H
    replace H : ((impl_IsPattern.f t220 t221).bind fun t230 => ((spec_IsPattern.f t220 t221).bind fun t231 => (if (t230 != t231) = true then (some false) else ((impl_IsPattern.f t220 t221).bind fun t232 => (if t232 = true then ((impl_IsPattern.f t222 t223).bind fun t233 => (laws_FnSites.j0 k t228 t233 t220 t221 t222 t223 t226 t227)) else (laws_FnSites.j0 k t228 false t220 t221 t222 t223 t226 t227)))))) = some r := H
    have A5 := Aside0.mk A50
    clear A50
    replace H := Option.bind_eq_some_iff.mp H
    obtain ⟨t230, A60, H⟩ := H
    replace H : ((spec_IsPattern.f t220 t221).bind fun t231 => (if (t230 != t231) = true then (some false) else ((impl_IsPattern.f t220 t221).bind fun t232 => (if t232 = true then ((impl_IsPattern.f t222 t223).bind fun t233 => (laws_FnSites.j0 k t228 t233 t220 t221 t222 t223 t226 t227)) else (laws_FnSites.j0 k t228 false t220 t221 t222 t223 t226 t227))))) = some r := H
    have A6 := Aside0.mk A60
    clear A60
    replace H := Option.bind_eq_some_iff.mp H
    obtain ⟨t231, A70, H⟩ := H
    replace H : (if (t230 != t231) = true then (some false) else ((impl_IsPattern.f t220 t221).bind fun t232 => (if t232 = true then ((impl_IsPattern.f t222 t223).bind fun t233 => (laws_FnSites.j0 k t228 t233 t220 t221 t222 t223 t226 t227)) else (laws_FnSites.j0 k t228 false t220 t221 t222 t223 t226 t227)))) = some r := H
    have A7 := Aside0.mk A70
    clear A70
    by_cases c8 : (t230 != t231) = true
    · rw [if_pos c8] at H
      have c8b0 : (t230 != t231) = true := c8
      (try (have c8b1 : decide (t230 = t231) = false := by simpa using c8))
      (try (have c8b2 : (t230 == t231) = false := by simpa using c8))
      (try (have c8b3 : ¬ (t230 = t231) := by simpa using c8))
      clear c8
      exact absurd ((Option.some.inj H).trans HRT.out) (by decide)
    · rw [if_neg c8] at H
      have c8b0 : (t230 != t231) = false := by simpa using c8
      (try (have c8b1 : decide (t230 = t231) = true := by simpa using c8))
      (try (have c8b2 : (t230 == t231) = true := by simpa using c8))
      clear c8
      have HC9 := Aside0.mk H
      clear H
      go_enter Tryd.func5, Tryd.ntmps5
      try go_wp2_with (first | ((with_reducible refine gate_callee (f := 11) rfl ?_); refine goesL_ (some 13) rfl rfl Tryd.func11 (by kernel_rfl) rfl #[.slice A0 l0.length c0] rfl (by (try simp only [List.map_toArray, List.map_cons, List.map_nil]); first | done | rfl | (simp only [List.length_drop, List.length_take]; rfl)) ?_; (with_reducible refine (laws_big.calls _ _ l0 false _ ?side1 ?side2 A2.out).mono ?_); (case side1 => repeat (first | exact HR0.out | (with_reducible refine Kd.C_alloc ?_ _) | (with_reducible refine Kd.C_drewN ?_ _) | (with_reducible refine Kd.C_drew ?_))); (case side2 => exact HC0.out); rintro e w' ⟨rfl, ⟨nd, rfl⟩⟩; refine ⟨_, rfl, ?_⟩) | ((with_reducible refine gate_callee (f := 12) rfl ?_); refine goesL_ (some 16) rfl rfl Tryd.func12 (by kernel_rfl) rfl #[.slice A0 l0.length c0] rfl (by (try simp only [List.map_toArray, List.map_cons, List.map_nil]); first | done | rfl | (simp only [List.length_drop, List.length_take]; rfl)) ?_; (with_reducible refine (spec_DrawMeetPatterns.calls k _ _ l0 t220 t221 t222 t223 _ ?side1 ?side2 A4.out).mono ?_); (case side1 => repeat (first | exact HR0.out | (with_reducible refine Kd.C_alloc ?_ _) | (with_reducible refine Kd.C_drewN ?_ _) | (with_reducible refine Kd.C_drew ?_))); (case side2 => exact HC0.out); rintro e w10 ⟨rfl, hb⟩; refine ⟨_, rfl, ?_⟩; have n0_ := am (below_step (by repeat (first | (with_reducible first | exact HB.out | apply below_alloc | apply pw_below_drewN | apply below_drew1) | exact HB.out)) hb); clear HB; have HB := n0_; clear n0_; (try clear hb); (try clear hb2); (try clear hk); (try clear hi)) | ((with_reducible refine gate_dst (N := 3) rfl ?_); refine box_event ?hg (N := 3) ?hd (cs := #[.int .i64 0, .int .i64 0]) (t := 25) ?hr ?_; (case hd => rfl); (case hg => rfl); (case hr => first | (go_simp; done) | (go_simp; rfl)); intro gb224 hg w11 hbox hb; have q_ := hbx_ (by repeat (first | (with_reducible first | exact HB.out | apply below_alloc | apply pw_below_drewN | apply below_drew1) | exact HB.out)) hg hb; have n0_ := q_.1; have n1_ := am (hbox); have n2_ := q_.2; have n3_ := n2_; clear HB; have HB := n0_; have BK224 := n1_; have GW224 := n2_; have GE224 := n3_; clear n0_ n1_ n2_ n3_ hb hbox hg) | ((with_reducible refine gate_dst (N := 4) rfl ?_); refine box_event ?hg (N := 4) ?hd (cs := #[.int .i64 0, .int .i64 0]) (t := 25) ?hr ?_; (case hd => rfl); (case hg => rfl); (case hr => first | (go_simp; done) | (go_simp; rfl)); intro gb225 hg w12 hbox hb; have n0_ := am (blk_below (by (with_reducible repeat (first | refine blk_drewN ?_ _ | refine blk_drew ?_ | refine blk_alloc ?_ _)); exact BK224.out) hb); have q_ := hbx_ (by repeat (first | (with_reducible first | exact HB.out | apply below_alloc | apply pw_below_drewN | apply below_drew1 | refine below_set ?_ GE224.out) | exact HB.out)) hg hb; have n1_ := q_.1; have n2_ := am (hbox); have n3_ := q_.2; have n4_ := n3_; have n5_ := am ((by rw [hg]; exact Nat.ne_of_lt (blk_lt (g := gb224) (o := .cells #[.int .i64 0, .int .i64 0] 25 (0, 0)) (by (with_reducible repeat (first | refine blk_drewN ?_ _ | refine blk_drew ?_ | refine blk_alloc ?_ _)); exact BK224.out)) : gb224 ≠ gb225)); have n6_ := am ((by rw [hg]; exact Nat.ne_of_gt (blk_lt (g := gb224) (o := .cells #[.int .i64 0, .int .i64 0] 25 (0, 0)) (by (with_reducible repeat (first | refine blk_drewN ?_ _ | refine blk_drew ?_ | refine blk_alloc ?_ _)); exact BK224.out)) : gb225 ≠ gb224)); clear BK224; clear HB; have BK224 := n0_; have HB := n1_; have BK225 := n2_; have GW225 := n3_; have GE225 := n4_; have NB224_225 := n5_; have NB225_224 := n6_; clear n0_ n1_ n2_ n3_ n4_ n5_ n6_; clear hb hbox hg; have hnb13 := NB224_225.out; have hnc13 := NB225_224.out; obtain ⟨hcz14_0, hcz14_1, hfz14_0, hfz14_1⟩ := blk2 BK224.out; obtain ⟨hcz15_0, hcz15_1, hfz15_0, hfz15_1⟩ := blk2 BK225.out) | ((with_reducible refine gate_callee (f := 13) rfl ?_); refine goesL_ (some 22) rfl rfl Tryd.func13 (by kernel_rfl) rfl #[.agg #[.int .i64 t220, .int .i64 t221], .agg #[.int .i64 t222, .int .i64 t223]] rfl (by (try simp only [List.map_toArray, List.map_cons, List.map_nil]); first | done | rfl | (simp only [List.length_drop, List.length_take]; rfl)) ?_; (with_reducible refine (impl_MeetPatterns.calls k t220 t221 t222 t223 t226 t227 t228 _ A5.out).mono ?_); rintro e w16 ⟨rfl, hb⟩; refine ⟨_, rfl, ?_⟩; have n0_ := am (blk_below (g := gb224) (o := .cells #[.int .i64 t220, .int .i64 t221] 25 (0, 0)) (by (with_reducible repeat (first | refine blk_drewN ?_ _ | refine blk_drew ?_ | refine blk_alloc ?_ _)); refine blk_far ?_ NB224_225.out _; (with_reducible repeat (first | refine blk_drewN ?_ _ | refine blk_drew ?_ | refine blk_alloc ?_ _)); refine blk_far ?_ NB224_225.out _; (with_reducible repeat (first | refine blk_drewN ?_ _ | refine blk_drew ?_ | refine blk_alloc ?_ _)); refine blk_put (cs := #[.int .i64 t220, .int .i64 0]) ?_ 1 _ rfl; (with_reducible repeat (first | refine blk_drewN ?_ _ | refine blk_drew ?_ | refine blk_alloc ?_ _)); refine blk_put (cs := #[.int .i64 0, .int .i64 0]) ?_ 0 _ rfl; (with_reducible repeat (first | refine blk_drewN ?_ _ | refine blk_drew ?_ | refine blk_alloc ?_ _)); exact BK224.out) hb); have n1_ := am (blk_below (g := gb225) (o := .cells #[.int .i64 t222, .int .i64 t223] 25 (0, 0)) (by (with_reducible repeat (first | refine blk_drewN ?_ _ | refine blk_drew ?_ | refine blk_alloc ?_ _)); refine blk_put (cs := #[.int .i64 t222, .int .i64 0]) ?_ 1 _ rfl; (with_reducible repeat (first | refine blk_drewN ?_ _ | refine blk_drew ?_ | refine blk_alloc ?_ _)); refine blk_put (cs := #[.int .i64 0, .int .i64 0]) ?_ 0 _ rfl; (with_reducible repeat (first | refine blk_drewN ?_ _ | refine blk_drew ?_ | refine blk_alloc ?_ _)); refine blk_far ?_ NB225_224.out _; (with_reducible repeat (first | refine blk_drewN ?_ _ | refine blk_drew ?_ | refine blk_alloc ?_ _)); refine blk_far ?_ NB225_224.out _; (with_reducible repeat (first | refine blk_drewN ?_ _ | refine blk_drew ?_ | refine blk_alloc ?_ _)); exact BK225.out) hb); have n2_ := am (below_step (by repeat (first | (with_reducible first | exact HB.out | apply below_alloc | apply pw_below_drewN | apply below_drew1 | refine below_set ?_ GE224.out | refine below_set ?_ GE225.out) | exact HB.out)) hb); clear BK224; clear BK225; clear HB; have BK224 := n0_; have BK225 := n1_; have HB := n2_; clear n0_ n1_ n2_; (try clear hb); (try clear hb2); (try clear hk); (try clear hi)) | ((with_reducible refine gate_dst (N := 5) rfl ?_); refine box_event ?hg (N := 5) ?hd (cs := #[.int .i64 0, .int .i64 0]) (t := 25) ?hr ?_; (case hd => rfl); (case hg => rfl); (case hr => first | (go_simp; done) | (go_simp; rfl)); intro gb229 hg w17 hbox hb; have n0_ := am (blk_below (by (with_reducible repeat (first | refine blk_drewN ?_ _ | refine blk_drew ?_ | refine blk_alloc ?_ _)); exact BK224.out) hb); have n1_ := am (blk_below (by (with_reducible repeat (first | refine blk_drewN ?_ _ | refine blk_drew ?_ | refine blk_alloc ?_ _)); exact BK225.out) hb); have q_ := hbx_ (by repeat (first | (with_reducible first | exact HB.out | apply below_alloc | apply pw_below_drewN | apply below_drew1 | refine below_set ?_ GE224.out | refine below_set ?_ GE225.out) | exact HB.out)) hg hb; have n2_ := q_.1; have n3_ := am (hbox); have n4_ := q_.2; have n5_ := n4_; have n6_ := am ((by rw [hg]; exact Nat.ne_of_lt (blk_lt (g := gb224) (o := .cells #[.int .i64 t220, .int .i64 t221] 25 (0, 0)) (by (with_reducible repeat (first | refine blk_drewN ?_ _ | refine blk_drew ?_ | refine blk_alloc ?_ _)); exact BK224.out)) : gb224 ≠ gb229)); have n7_ := am ((by rw [hg]; exact Nat.ne_of_gt (blk_lt (g := gb224) (o := .cells #[.int .i64 t220, .int .i64 t221] 25 (0, 0)) (by (with_reducible repeat (first | refine blk_drewN ?_ _ | refine blk_drew ?_ | refine blk_alloc ?_ _)); exact BK224.out)) : gb229 ≠ gb224)); have n8_ := am ((by rw [hg]; exact Nat.ne_of_lt (blk_lt (g := gb225) (o := .cells #[.int .i64 t222, .int .i64 t223] 25 (0, 0)) (by (with_reducible repeat (first | refine blk_drewN ?_ _ | refine blk_drew ?_ | refine blk_alloc ?_ _)); exact BK225.out)) : gb225 ≠ gb229)); have n9_ := am ((by rw [hg]; exact Nat.ne_of_gt (blk_lt (g := gb225) (o := .cells #[.int .i64 t222, .int .i64 t223] 25 (0, 0)) (by (with_reducible repeat (first | refine blk_drewN ?_ _ | refine blk_drew ?_ | refine blk_alloc ?_ _)); exact BK225.out)) : gb229 ≠ gb225)); clear BK224; clear BK225; clear HB; have BK224 := n0_; have BK225 := n1_; have HB := n2_; have BK229 := n3_; have GW229 := n4_; have GE229 := n5_; have NB224_229 := n6_; have NB229_224 := n7_; have NB225_229 := n8_; have NB229_225 := n9_; clear n0_ n1_ n2_ n3_ n4_ n5_ n6_ n7_ n8_ n9_; clear hb hbox hg; have hnb18 := NB229_224.out; have hnc18 := NB224_229.out; have hnb19 := NB229_225.out; have hnc19 := NB225_229.out; obtain ⟨hcz20_0, hcz20_1, hfz20_0, hfz20_1⟩ := blk2 BK229.out))
      have n0_ : Aside0 (((w17.setCell ⟨gb229, 0, none⟩ (.int .i64 t226)).setCell ⟨gb229, 1, none⟩ (.int .i64 t227)).heap[gb224]? = some (.cells #[.int .i64 t220, .int .i64 t221] 25 (0, 0))) := ⟨by (with_reducible repeat (first | refine blk_drewN ?_ _ | refine blk_drew ?_ | refine blk_alloc ?_ _)); refine blk_far ?_ NB224_229.out _; (with_reducible repeat (first | refine blk_drewN ?_ _ | refine blk_drew ?_ | refine blk_alloc ?_ _)); refine blk_far ?_ NB224_229.out _; (with_reducible repeat (first | refine blk_drewN ?_ _ | refine blk_drew ?_ | refine blk_alloc ?_ _)); exact BK224.out⟩
      have n1_ : Aside0 (((w17.setCell ⟨gb229, 0, none⟩ (.int .i64 t226)).setCell ⟨gb229, 1, none⟩ (.int .i64 t227)).heap[gb225]? = some (.cells #[.int .i64 t222, .int .i64 t223] 25 (0, 0))) := ⟨by (with_reducible repeat (first | refine blk_drewN ?_ _ | refine blk_drew ?_ | refine blk_alloc ?_ _)); refine blk_far ?_ NB225_229.out _; (with_reducible repeat (first | refine blk_drewN ?_ _ | refine blk_drew ?_ | refine blk_alloc ?_ _)); refine blk_far ?_ NB225_229.out _; (with_reducible repeat (first | refine blk_drewN ?_ _ | refine blk_drew ?_ | refine blk_alloc ?_ _)); exact BK225.out⟩
      have n2_ : Aside0 (((w17.setCell ⟨gb229, 0, none⟩ (.int .i64 t226)).setCell ⟨gb229, 1, none⟩ (.int .i64 t227)).heap[gb229]? = some (.cells #[.int .i64 t226, .int .i64 t227] 25 (0, 0))) := ⟨by (with_reducible repeat (first | refine blk_drewN ?_ _ | refine blk_drew ?_ | refine blk_alloc ?_ _)); refine blk_put (cs := #[.int .i64 t226, .int .i64 0]) ?_ 1 _ rfl; (with_reducible repeat (first | refine blk_drewN ?_ _ | refine blk_drew ?_ | refine blk_alloc ?_ _)); refine blk_put (cs := #[.int .i64 0, .int .i64 0]) ?_ 0 _ rfl; (with_reducible repeat (first | refine blk_drewN ?_ _ | refine blk_drew ?_ | refine blk_alloc ?_ _)); exact BK229.out⟩
      have n3_ : Aside0 (Below w.heap.size w ((w17.setCell ⟨gb229, 0, none⟩ (.int .i64 t226)).setCell ⟨gb229, 1, none⟩ (.int .i64 t227))) := ⟨by repeat (first | (with_reducible first | exact HB.out | apply below_alloc | apply pw_below_drewN | apply below_drew1 | refine below_set ?_ GE224.out | refine below_set ?_ GE225.out | refine below_set ?_ GE229.out) | exact HB.out)⟩
      (try clear BK224)
      (try clear BK225)
      (try clear BK229)
      (try clear HB)
      generalize ((w17.setCell ⟨gb229, 0, none⟩ (.int .i64 t226)).setCell ⟨gb229, 1, none⟩ (.int .i64 t227)) = w21 at n0_ n1_ n2_ n3_ ⊢
      have BK224 := n0_
      have BK225 := n1_
      have BK229 := n2_
      have HB := n3_
      clear n0_ n1_ n2_ n3_
      have n0_ := am (blk_drew BK224.out)
      have n1_ := am (blk_drew BK225.out)
      have n2_ := am (blk_drew BK229.out)
      have n3_ := am (below_drew1 HB.out)
      clear BK224
      clear BK225
      clear BK229
      clear HB
      have BK224 := n0_
      have BK225 := n1_
      have BK229 := n2_
      have HB := n3_
      clear n0_ n1_ n2_ n3_
      refine start_ (n := 5) (S := fun w' => w'.cell? ⟨gb224, 0, none⟩ = some (.int .i64 t220) ∧ w'.cell? ⟨gb224, 1, none⟩ = some (.int .i64 t221)) (ds := []) #[false, false, false, false, false] (by kernel_rfl) rfl rfl ⟨(blk_cell BK224.out 0).trans rfl, (blk_cell BK224.out 1).trans rfl⟩ (fun hHeld => ?_)
      generalize w21.drew = w22 at BK224 BK225 BK229 HB hHeld ⊢
      refine take_ (i := 0) (N := some 25) (v := ?_) (a' := ?_) #[true, false, false, false, false] rfl rfl (by kernel_rfl) (fun _ _ _ h => h) (Or.inl ⟨by rfl, ?_⟩) hHeld ?_ ?_
      rotate_left
      · rintro w' ⟨s0, s1⟩
        go_simp
        with_reducible rfl
      rotate_left
      · simp only [Act.put, List.setIfInBounds_toArray, List.set_cons_zero, List.set_cons_succ, i64_w, i32_w]
        rfl
      refine take_ (i := 2) (N := some 27) (v := ?_) (a' := ?_) #[true, false, true, false, false] rfl rfl (by kernel_rfl) (fun _ _ _ h => h) (Or.inl ⟨by rfl, ?_⟩) hHeld ?_ ?_
      rotate_left
      · rintro w' ⟨s0, s1⟩
        go_simp
        with_reducible rfl
      rotate_left
      · simp only [Act.put, List.setIfInBounds_toArray, List.set_cons_zero, List.set_cons_succ, i64_w, i32_w]
        rfl
      refine one_ (i := 1) (N := some 26) #[true, true, true, false, false] rfl rfl (by kernel_rfl) (by decide) (fun K hK => ?_)
      refine goes_ Tryd.func14 (by kernel_rfl) rfl #[.agg #[.int .i64 t220, .int .i64 t221]] (by rfl) rfl rfl (by (try simp only [List.map_toArray, List.map_cons, List.map_nil]); first | done | rfl | (simp only [List.length_drop, List.length_take]; rfl)) ?_
      with_reducible refine (impl_IsPattern.calls t220 t221 t230 _ A6.out).mono ?_
      rintro e w23 ⟨rfl, hb⟩
      refine ⟨_, rfl, ?_⟩
      have n0_ := am (blk_below (by (with_reducible repeat (first | refine blk_drewN ?_ _ | refine blk_drew ?_ | refine blk_alloc ?_ _)); exact BK224.out) hb)
      have n1_ := am (blk_below (by (with_reducible repeat (first | refine blk_drewN ?_ _ | refine blk_drew ?_ | refine blk_alloc ?_ _)); exact BK225.out) hb)
      have n2_ := am (blk_below (by (with_reducible repeat (first | refine blk_drewN ?_ _ | refine blk_drew ?_ | refine blk_alloc ?_ _)); exact BK229.out) hb)
      have n3_ := am (below_step (by repeat (first | (with_reducible first | exact HB.out | apply below_alloc | apply pw_below_drewN | apply below_drew1 | refine below_set ?_ GE224.out | refine below_set ?_ GE225.out | refine below_set ?_ GE229.out) | exact HB.out)) hb)
      clear BK224
      clear BK225
      clear BK229
      clear HB
      have BK224 := n0_
      have BK225 := n1_
      have BK229 := n2_
      have HB := n3_
      clear n0_ n1_ n2_ n3_
      (try clear hb)
      (try clear hb2)
      (try clear hk)
      (try clear hi)
      refine hK.out _ _ ⟨(blk_cell BK224.out 0).trans rfl, (blk_cell BK224.out 1).trans rfl⟩ (fun hHeld => ?_)
      clear hK K
      refine norm_ (a' := ?_) ?_ ?_
      rotate_left
      · show Act.put _ (some 26) _ = _
        simp only [Act.put, List.setIfInBounds_toArray, List.set_cons_zero, List.set_cons_succ, i64_w, i32_w]
        rfl
      refine one_ (i := 3) (N := some 28) #[true, true, true, true, false] rfl rfl (by kernel_rfl) (by decide) (fun K hK => ?_)
      refine goes_ Tryd.func15 (by kernel_rfl) rfl #[.agg #[.int .i64 t220, .int .i64 t221]] (by rfl) rfl rfl (by (try simp only [List.map_toArray, List.map_cons, List.map_nil]); first | done | rfl | (simp only [List.length_drop, List.length_take]; rfl)) ?_
      with_reducible refine (spec_IsPattern.calls t220 t221 t231 _ A7.out).mono ?_
      rintro e w24 ⟨rfl, hb⟩
      refine ⟨_, rfl, ?_⟩
      have n0_ := am (blk_below (by (with_reducible repeat (first | refine blk_drewN ?_ _ | refine blk_drew ?_ | refine blk_alloc ?_ _)); exact BK224.out) hb)
      have n1_ := am (blk_below (by (with_reducible repeat (first | refine blk_drewN ?_ _ | refine blk_drew ?_ | refine blk_alloc ?_ _)); exact BK225.out) hb)
      have n2_ := am (blk_below (by (with_reducible repeat (first | refine blk_drewN ?_ _ | refine blk_drew ?_ | refine blk_alloc ?_ _)); exact BK229.out) hb)
      have n3_ := am (below_step (by repeat (first | (with_reducible first | exact HB.out | apply below_alloc | apply pw_below_drewN | apply below_drew1 | refine below_set ?_ GE224.out | refine below_set ?_ GE225.out | refine below_set ?_ GE229.out) | exact HB.out)) hb)
      clear BK224
      clear BK225
      clear BK229
      clear HB
      have BK224 := n0_
      have BK225 := n1_
      have BK229 := n2_
      have HB := n3_
      clear n0_ n1_ n2_ n3_
      (try clear hb)
      (try clear hb2)
      (try clear hk)
      (try clear hi)
      refine hK.out _ _ ⟨(blk_cell BK224.out 0).trans rfl, (blk_cell BK224.out 1).trans rfl⟩ (fun hHeld => ?_)
      clear hK K
      refine norm_ (a' := ?_) ?_ ?_
      rotate_left
      · show Act.put _ (some 28) _ = _
        simp only [Act.put, List.setIfInBounds_toArray, List.set_cons_zero, List.set_cons_succ, i64_w, i32_w]
        rfl
      refine pure_ (i := 4) (N := some 29) (v := ?_) (a' := ?_) #[true, true, true, true, true] rfl rfl (by kernel_rfl) (fun _ _ _ h => h) (Or.inl ⟨by rfl, ?_⟩) ?_ ?_
      rotate_left
      · intro w'
        go_simp
        with_reducible rfl
      rotate_left
      · simp only [Act.put, List.setIfInBounds_toArray, List.set_cons_zero, List.set_cons_succ, i64_w, i32_w]
        rfl
      refine done_ (by kernel_rfl) ?_
      go_upto_region 7 with (fail)
      go_cut [7] (fun v7 wc => ∃ (kq : Nat) (x7_8 : Bool), v7 = .bool x7_8 ∧ Aside0 (laws_FnSites.j0 kq t228 x7_8 t220 t221 t222 t223 t226 t227 = some r) ∧ Aside0 (kq ≤ k) ∧ Aside0 (wc.heap[gb224]? = some (.cells #[.int .i64 t220, .int .i64 t221] 25 (0, 0))) ∧ Aside0 (wc.heap[gb225]? = some (.cells #[.int .i64 t222, .int .i64 t223] 25 (0, 0))) ∧ Aside0 (wc.heap[gb229]? = some (.cells #[.int .i64 t226, .int .i64 t227] 25 (0, 0))) ∧ Aside0 (Below w.heap.size w wc))
      case first =>
        have H := HC9.out
        clear HC9
        replace H := Option.bind_eq_some_iff.mp H
        obtain ⟨t232, A250, H⟩ := H
        replace H : (if t232 = true then ((impl_IsPattern.f t222 t223).bind fun t233 => (laws_FnSites.j0 k t228 t233 t220 t221 t222 t223 t226 t227)) else (laws_FnSites.j0 k t228 false t220 t221 t222 t223 t226 t227)) = some r := H
        have A25 := Aside0.mk A250
        clear A250
        by_cases c26 : t232 = true
        · subst c26
          have H1 : ((impl_IsPattern.f t222 t223).bind fun t233 => (laws_FnSites.j0 k t228 t233 t220 t221 t222 t223 t226 t227)) = some r := by rw [if_pos rfl] at H; exact H
          clear H
          have H := H1
          clear H1
          replace H := Option.bind_eq_some_iff.mp H
          obtain ⟨t233, A270, H⟩ := H
          replace H : (laws_FnSites.j0 k t228 t233 t220 t221 t222 t223 t226 t227) = some r := H
          have A27 := Aside0.mk A270
          clear A270
          have H' := Aside0.mk H
          clear H
          have hnb28 := NB224_225.out
          have hnc28 := NB225_224.out
          have hnb29 := NB224_229.out
          have hnc29 := NB229_224.out
          have hcz30_0 : w24.cell? ⟨gb224, 0, none⟩ = some (.int .i64 t220) := (blk_cell BK224.out 0).trans rfl
          have hcz30_1 : w24.cell? ⟨gb224, 1, none⟩ = some (.int .i64 t221) := (blk_cell BK224.out 1).trans rfl
          have hfz30_0 := blk_frozen BK224.out 0
          have hfz30_1 := blk_frozen BK224.out 1
          go_wp2_with (first | ((with_reducible refine gate_callee (f := 14) rfl ?_); refine goesL_ (some 31) rfl rfl Tryd.func14 (by kernel_rfl) rfl #[.agg #[.int .i64 t220, .int .i64 t221]] rfl (by (try simp only [List.map_toArray, List.map_cons, List.map_nil]); first | done | rfl | (simp only [List.length_drop, List.length_take]; rfl)) ?_; (with_reducible refine (impl_IsPattern.calls t220 t221 true _ A25.out).mono ?_); rintro e w31 ⟨rfl, hb⟩; refine ⟨_, rfl, ?_⟩; have n0_ := am (blk_below (by (with_reducible repeat (first | refine blk_drewN ?_ _ | refine blk_drew ?_ | refine blk_alloc ?_ _)); exact BK224.out) hb); have n1_ := am (blk_below (by (with_reducible repeat (first | refine blk_drewN ?_ _ | refine blk_drew ?_ | refine blk_alloc ?_ _)); exact BK225.out) hb); have n2_ := am (blk_below (by (with_reducible repeat (first | refine blk_drewN ?_ _ | refine blk_drew ?_ | refine blk_alloc ?_ _)); exact BK229.out) hb); have n3_ := am (below_step (by repeat (first | (with_reducible first | exact HB.out | apply below_alloc | apply pw_below_drewN | apply below_drew1 | refine below_set ?_ GE224.out | refine below_set ?_ GE225.out | refine below_set ?_ GE229.out) | exact HB.out)) hb); clear BK224; clear BK225; clear BK229; clear HB; have BK224 := n0_; have BK225 := n1_; have BK229 := n2_; have HB := n3_; clear n0_ n1_ n2_ n3_; (try clear hb); (try clear hb2); (try clear hk); (try clear hi); have hnb32 := NB225_229.out; have hnc32 := NB229_225.out; obtain ⟨hcz33_0, hcz33_1, hfz33_0, hfz33_1⟩ := blk2 BK225.out) | (go_at_call 14; (with_reducible refine (impl_IsPattern.calls t222 t223 t233 _ A27.out).mono ?_); rintro e w34 ⟨rfl, hb⟩; have n0_ := am (blk_below (by (with_reducible repeat (first | refine blk_drewN ?_ _ | refine blk_drew ?_ | refine blk_alloc ?_ _)); exact BK224.out) hb); have n1_ := am (blk_below (by (with_reducible repeat (first | refine blk_drewN ?_ _ | refine blk_drew ?_ | refine blk_alloc ?_ _)); exact BK225.out) hb); have n2_ := am (blk_below (by (with_reducible repeat (first | refine blk_drewN ?_ _ | refine blk_drew ?_ | refine blk_alloc ?_ _)); exact BK229.out) hb); have n3_ := am (below_step (by repeat (first | (with_reducible first | exact HB.out | apply below_alloc | apply pw_below_drewN | apply below_drew1 | refine below_set ?_ GE224.out | refine below_set ?_ GE225.out | refine below_set ?_ GE229.out) | exact HB.out)) hb); clear BK224; clear BK225; clear BK229; clear HB; have BK224 := n0_; have BK225 := n1_; have BK229 := n2_; have HB := n3_; clear n0_ n1_ n2_ n3_; (try clear hb); (try clear hb2); (try clear hk); (try clear hi)))
          go_meet
          case rel => exact ⟨_, (t233), (by first | rfl | (simp; done) | (simp [*]; done)), H', ⟨by first | omega | exact Nat.le_refl _⟩, ⟨by (with_reducible repeat (first | refine blk_drewN ?_ _ | refine blk_drew ?_ | refine blk_alloc ?_ _)); exact BK224.out⟩, ⟨by (with_reducible repeat (first | refine blk_drewN ?_ _ | refine blk_drew ?_ | refine blk_alloc ?_ _)); exact BK225.out⟩, ⟨by (with_reducible repeat (first | refine blk_drewN ?_ _ | refine blk_drew ?_ | refine blk_alloc ?_ _)); exact BK229.out⟩, ⟨by repeat (first | (with_reducible first | exact HB.out | apply below_alloc | apply pw_below_drewN | apply below_drew1 | refine below_set ?_ GE224.out | refine below_set ?_ GE225.out | refine below_set ?_ GE229.out) | exact HB.out)⟩⟩
        · replace c26 := Bool.eq_false_iff.mpr c26
          subst c26
          have H1 : (laws_FnSites.j0 k t228 false t220 t221 t222 t223 t226 t227) = some r := by rw [if_neg (show ¬ (false = true) by decide)] at H; exact H
          clear H
          have H := H1
          clear H1
          have H' := Aside0.mk H
          clear H
          have hnb35 := NB224_225.out
          have hnc35 := NB225_224.out
          have hnb36 := NB224_229.out
          have hnc36 := NB229_224.out
          have hcz37_0 : w24.cell? ⟨gb224, 0, none⟩ = some (.int .i64 t220) := (blk_cell BK224.out 0).trans rfl
          have hcz37_1 : w24.cell? ⟨gb224, 1, none⟩ = some (.int .i64 t221) := (blk_cell BK224.out 1).trans rfl
          have hfz37_0 := blk_frozen BK224.out 0
          have hfz37_1 := blk_frozen BK224.out 1
          go_wp2_with (first | ((with_reducible refine gate_callee (f := 14) rfl ?_); refine goesL_ (some 31) rfl rfl Tryd.func14 (by kernel_rfl) rfl #[.agg #[.int .i64 t220, .int .i64 t221]] rfl (by (try simp only [List.map_toArray, List.map_cons, List.map_nil]); first | done | rfl | (simp only [List.length_drop, List.length_take]; rfl)) ?_; (with_reducible refine (impl_IsPattern.calls t220 t221 false _ A25.out).mono ?_); rintro e w38 ⟨rfl, hb⟩; refine ⟨_, rfl, ?_⟩; have n0_ := am (blk_below (by (with_reducible repeat (first | refine blk_drewN ?_ _ | refine blk_drew ?_ | refine blk_alloc ?_ _)); exact BK224.out) hb); have n1_ := am (blk_below (by (with_reducible repeat (first | refine blk_drewN ?_ _ | refine blk_drew ?_ | refine blk_alloc ?_ _)); exact BK225.out) hb); have n2_ := am (blk_below (by (with_reducible repeat (first | refine blk_drewN ?_ _ | refine blk_drew ?_ | refine blk_alloc ?_ _)); exact BK229.out) hb); have n3_ := am (below_step (by repeat (first | (with_reducible first | exact HB.out | apply below_alloc | apply pw_below_drewN | apply below_drew1 | refine below_set ?_ GE224.out | refine below_set ?_ GE225.out | refine below_set ?_ GE229.out) | exact HB.out)) hb); clear BK224; clear BK225; clear BK229; clear HB; have BK224 := n0_; have BK225 := n1_; have BK229 := n2_; have HB := n3_; clear n0_ n1_ n2_ n3_; (try clear hb); (try clear hb2); (try clear hk); (try clear hi)))
          go_meet
          case rel => exact ⟨_, (false), (by first | rfl | (simp; done) | (simp [*]; done)), H', ⟨by first | omega | exact Nat.le_refl _⟩, ⟨by (with_reducible repeat (first | refine blk_drewN ?_ _ | refine blk_drew ?_ | refine blk_alloc ?_ _)); exact BK224.out⟩, ⟨by (with_reducible repeat (first | refine blk_drewN ?_ _ | refine blk_drew ?_ | refine blk_alloc ?_ _)); exact BK225.out⟩, ⟨by (with_reducible repeat (first | refine blk_drewN ?_ _ | refine blk_drew ?_ | refine blk_alloc ?_ _)); exact BK229.out⟩, ⟨by repeat (first | (with_reducible first | exact HB.out | apply below_alloc | apply pw_below_drewN | apply below_drew1 | refine below_set ?_ GE224.out | refine below_set ?_ GE225.out | refine below_set ?_ GE229.out) | exact HB.out)⟩⟩
      case rest =>
        clear HC9
        try clear c1
        try clear c2
        try clear p2
        try clear c3
        try clear c5
        try clear c8
        try clear c8b0
        try clear c8b1
        try clear c8b2
        try clear c11
        try clear c12
        try clear c13
        try clear c14
        try clear c15
        try clear c18
        try clear c19
        try clear c26
        try clear c28
        try clear c29
        try clear c32
        try clear c35
        try clear c36
        try clear hcz14_0
        try clear hcz14_1
        try clear hcz15_0
        try clear hcz15_1
        try clear hcz20_0
        try clear hcz20_1
        try clear hcz30_0
        try clear hcz30_1
        try clear hcz33_0
        try clear hcz33_1
        try clear hcz37_0
        try clear hcz37_1
        try clear hfz14_0
        try clear hfz14_1
        try clear hfz15_0
        try clear hfz15_1
        try clear hfz20_0
        try clear hfz20_1
        try clear hfz30_0
        try clear hfz30_1
        try clear hfz33_0
        try clear hfz33_1
        try clear hfz37_0
        try clear hfz37_1
        obtain ⟨kq, x7_8, rfl, HA, HJ8, BK224, BK225, BK229, HB⟩ := hcut
        cases kq with
        | zero => exact absurd HA.out (by simp [laws_FnSites.j0])
        | succ kj8 =>
          have H := HA.out
          clear HA
          simp only [laws_FnSites.j0] at H
          have H' := Aside0.mk H
          clear H
          go_wp2
          go_loopg [7, 8, 9] kj8 (fun kq v7 v8 v9 w' => ∃ (x7_2 : Bool) (x8_2 : Bool) (x9_2 : Int), v7 = .bool x7_2 ∧ v8 = .bool x8_2 ∧ v9 = .int .i64 x9_2 ∧ Aside0 (laws_FnSites.l0 kq t228 x7_2 x8_2 x9_2 t220 t221 t222 t223 t226 t227 = some r) ∧ Aside0 (kq ≤ kj8) ∧ Aside0 (w'.heap[gb224]? = some (.cells #[.int .i64 t220, .int .i64 t221] 25 (0, 0))) ∧ Aside0 (w'.heap[gb225]? = some (.cells #[.int .i64 t222, .int .i64 t223] 25 (0, 0))) ∧ Aside0 (w'.heap[gb229]? = some (.cells #[.int .i64 t226, .int .i64 t227] 25 (0, 0))) ∧ Aside0 (Below w.heap.size w w'))
          case atStart => exact ⟨(x7_8), (false), (0), (by first | rfl | (simp; done) | (simp [*]; done)), (by first | rfl | (simp; done) | (simp [*]; done)), (by first | rfl | (simp; done) | (simp [*]; done)), H', ⟨Nat.le_refl _⟩, ⟨by (with_reducible repeat (first | refine blk_drewN ?_ _ | refine blk_drew ?_ | refine blk_alloc ?_ _)); exact BK224.out⟩, ⟨by (with_reducible repeat (first | refine blk_drewN ?_ _ | refine blk_drew ?_ | refine blk_alloc ?_ _)); exact BK225.out⟩, ⟨by (with_reducible repeat (first | refine blk_drewN ?_ _ | refine blk_drew ?_ | refine blk_alloc ?_ _)); exact BK229.out⟩, ⟨by repeat (first | (with_reducible first | exact HB.out | apply below_alloc | apply pw_below_drewN | apply below_drew1 | refine below_set ?_ GE224.out | refine below_set ?_ GE225.out | refine below_set ?_ GE229.out) | exact HB.out)⟩⟩
          case round =>
            clear H'
            try clear c1
            try clear c2
            try clear p2
            try clear c3
            try clear c5
            try clear c8
            try clear c8b0
            try clear c8b1
            try clear c8b2
            try clear c11
            try clear c12
            try clear c13
            try clear c14
            try clear c15
            try clear c18
            try clear c19
            try clear c26
            try clear c28
            try clear c29
            try clear c32
            try clear c35
            try clear c36
            try clear hcz14_0
            try clear hcz14_1
            try clear hcz15_0
            try clear hcz15_1
            try clear hcz20_0
            try clear hcz20_1
            try clear hcz30_0
            try clear hcz30_1
            try clear hcz33_0
            try clear hcz33_1
            try clear hcz37_0
            try clear hcz37_1
            try clear hfz14_0
            try clear hfz14_1
            try clear hfz15_0
            try clear hfz15_1
            try clear hfz20_0
            try clear hfz20_1
            try clear hfz30_0
            try clear hfz30_1
            try clear hfz33_0
            try clear hfz33_1
            try clear hfz37_0
            try clear hfz37_1
            try clear p2
            obtain ⟨x7_2, x8_2, x9_2, rfl, rfl, rfl, HA, HK2, BK224, BK225, BK229, HB⟩ := hrel
            cases gk with
            | zero => exact absurd HA.out (by simp [laws_FnSites.l0])
            | succ k2 =>
              have H := HA.out
              clear HA
              simp only [laws_FnSites.l0] at H
              by_cases c39 : x9_2 < 90
              · rw [if_pos c39] at H
                have c39b0 : decide (x9_2 < 90) = true := decide_eq_true c39
                clear c39
                have HC40 := Aside0.mk H
                clear H
                go_upto_region 13 with (first | ((with_reducible refine gate_dst (N := 10) rfl ?_); refine box_event ?hg (N := 10) ?hd (cs := #[.int .i64 0, .int .i64 0]) (t := 37) ?hr ?_; (case hd => rfl); (case hg => rfl); (case hr => first | (go_simp; done) | (go_simp; rfl)); intro gb237 hg w41 hbox hb; have n0_ := am (blk_below (by (with_reducible repeat (first | refine blk_drewN ?_ _ | refine blk_drew ?_ | refine blk_alloc ?_ _)); exact BK224.out) hb); have n1_ := am (blk_below (by (with_reducible repeat (first | refine blk_drewN ?_ _ | refine blk_drew ?_ | refine blk_alloc ?_ _)); exact BK225.out) hb); have n2_ := am (blk_below (by (with_reducible repeat (first | refine blk_drewN ?_ _ | refine blk_drew ?_ | refine blk_alloc ?_ _)); exact BK229.out) hb); have q_ := hbx_ (by repeat (first | (with_reducible first | exact HB.out | apply below_alloc | apply pw_below_drewN | apply below_drew1 | refine below_set ?_ GE224.out | refine below_set ?_ GE225.out | refine below_set ?_ GE229.out) | exact HB.out)) hg hb; have n3_ := q_.1; have n4_ := am (hbox); have n5_ := q_.2; have n6_ := n5_; have n7_ := am ((by rw [hg]; exact Nat.ne_of_lt (blk_lt (g := gb224) (o := .cells #[.int .i64 t220, .int .i64 t221] 25 (0, 0)) (by (with_reducible repeat (first | refine blk_drewN ?_ _ | refine blk_drew ?_ | refine blk_alloc ?_ _)); exact BK224.out)) : gb224 ≠ gb237)); have n8_ := am ((by rw [hg]; exact Nat.ne_of_gt (blk_lt (g := gb224) (o := .cells #[.int .i64 t220, .int .i64 t221] 25 (0, 0)) (by (with_reducible repeat (first | refine blk_drewN ?_ _ | refine blk_drew ?_ | refine blk_alloc ?_ _)); exact BK224.out)) : gb237 ≠ gb224)); have n9_ := am ((by rw [hg]; exact Nat.ne_of_lt (blk_lt (g := gb225) (o := .cells #[.int .i64 t222, .int .i64 t223] 25 (0, 0)) (by (with_reducible repeat (first | refine blk_drewN ?_ _ | refine blk_drew ?_ | refine blk_alloc ?_ _)); exact BK225.out)) : gb225 ≠ gb237)); have n10_ := am ((by rw [hg]; exact Nat.ne_of_gt (blk_lt (g := gb225) (o := .cells #[.int .i64 t222, .int .i64 t223] 25 (0, 0)) (by (with_reducible repeat (first | refine blk_drewN ?_ _ | refine blk_drew ?_ | refine blk_alloc ?_ _)); exact BK225.out)) : gb237 ≠ gb225)); have n11_ := am ((by rw [hg]; exact Nat.ne_of_lt (blk_lt (g := gb229) (o := .cells #[.int .i64 t226, .int .i64 t227] 25 (0, 0)) (by (with_reducible repeat (first | refine blk_drewN ?_ _ | refine blk_drew ?_ | refine blk_alloc ?_ _)); exact BK229.out)) : gb229 ≠ gb237)); have n12_ := am ((by rw [hg]; exact Nat.ne_of_gt (blk_lt (g := gb229) (o := .cells #[.int .i64 t226, .int .i64 t227] 25 (0, 0)) (by (with_reducible repeat (first | refine blk_drewN ?_ _ | refine blk_drew ?_ | refine blk_alloc ?_ _)); exact BK229.out)) : gb237 ≠ gb229)); clear BK224; clear BK225; clear BK229; clear HB; have BK224 := n0_; have BK225 := n1_; have BK229 := n2_; have HB := n3_; have BK237 := n4_; have GW237 := n5_; have GE237 := n6_; have NB224_237 := n7_; have NB237_224 := n8_; have NB225_237 := n9_; have NB237_225 := n10_; have NB229_237 := n11_; have NB237_229 := n12_; clear n0_ n1_ n2_ n3_ n4_ n5_ n6_ n7_ n8_ n9_ n10_ n11_ n12_; clear hb hbox hg; have hnb42 := NB237_224.out; have hnc42 := NB224_237.out; have hnb43 := NB237_225.out; have hnc43 := NB225_237.out; have hnb44 := NB237_229.out; have hnc44 := NB229_237.out; obtain ⟨hcz45_0, hcz45_1, hfz45_0, hfz45_1⟩ := blk2 BK237.out))
                (try simp only [Act.put, List.setIfInBounds_toArray, List.set_cons_zero, List.set_cons_succ])
                go_cut [11] (fun v11 wc => ∃ (kq : Nat) (x11_39 : Bool), v11 = .bool x11_39 ∧ Aside0 (laws_FnSites.j2 kq t228 x7_2 x8_2 x9_2 x11_39 t220 t221 t222 t223 t226 t227 (wrap64 (1 + (wrap64 (Int.tdiv x9_2 10)))) (Int.tmod x9_2 10) = some r) ∧ Aside0 (kq ≤ k2) ∧ Aside0 (wc.heap[gb224]? = some (.cells #[.int .i64 t220, .int .i64 t221] 25 (0, 0))) ∧ Aside0 (wc.heap[gb225]? = some (.cells #[.int .i64 t222, .int .i64 t223] 25 (0, 0))) ∧ Aside0 (wc.heap[gb229]? = some (.cells #[.int .i64 t226, .int .i64 t227] 25 (0, 0))) ∧ Aside0 (wc.heap[gb237]? = some (.cells #[.int .i64 (wrap64 (1 + (wrap64 (Int.tdiv x9_2 10)))), .int .i64 (Int.tmod x9_2 10)] 37 (0, 0))) ∧ Aside0 (Below w.heap.size w wc))
                case first =>
                  have H := HC40.out
                  clear HC40
                  replace H := Option.bind_eq_some_iff.mp H
                  obtain ⟨t238, A460, H⟩ := H
                  replace H : (if t238 = true then ((impl_MatchSite.f t222 t223 (wrap64 (1 + (wrap64 (Int.tdiv x9_2 10)))) (Int.tmod x9_2 10)).bind fun t239 => (laws_FnSites.j2 k2 t228 x7_2 x8_2 x9_2 t239 t220 t221 t222 t223 t226 t227 (wrap64 (1 + (wrap64 (Int.tdiv x9_2 10)))) (Int.tmod x9_2 10))) else (laws_FnSites.j2 k2 t228 x7_2 x8_2 x9_2 false t220 t221 t222 t223 t226 t227 (wrap64 (1 + (wrap64 (Int.tdiv x9_2 10)))) (Int.tmod x9_2 10))) = some r := H
                  have A46 := Aside0.mk A460
                  clear A460
                  by_cases c47 : t238 = true
                  · subst c47
                    have H1 : ((impl_MatchSite.f t222 t223 (wrap64 (1 + (wrap64 (Int.tdiv x9_2 10)))) (Int.tmod x9_2 10)).bind fun t239 => (laws_FnSites.j2 k2 t228 x7_2 x8_2 x9_2 t239 t220 t221 t222 t223 t226 t227 (wrap64 (1 + (wrap64 (Int.tdiv x9_2 10)))) (Int.tmod x9_2 10))) = some r := by rw [if_pos rfl] at H; exact H
                    clear H
                    have H := H1
                    clear H1
                    replace H := Option.bind_eq_some_iff.mp H
                    obtain ⟨t239, A480, H⟩ := H
                    replace H : (laws_FnSites.j2 k2 t228 x7_2 x8_2 x9_2 t239 t220 t221 t222 t223 t226 t227 (wrap64 (1 + (wrap64 (Int.tdiv x9_2 10)))) (Int.tmod x9_2 10)) = some r := H
                    have A48 := Aside0.mk A480
                    clear A480
                    have H' := Aside0.mk H
                    clear H
                    have hnb49 := NB224_225.out
                    have hnc49 := NB225_224.out
                    have hnb50 := NB224_229.out
                    have hnc50 := NB229_224.out
                    have hnb51 := NB224_237.out
                    have hnc51 := NB237_224.out
                    have hcz52_0 : w41.cell? ⟨gb224, 0, none⟩ = some (.int .i64 t220) := (blk_cell BK224.out 0).trans rfl
                    have hcz52_1 : w41.cell? ⟨gb224, 1, none⟩ = some (.int .i64 t221) := (blk_cell BK224.out 1).trans rfl
                    have hfz52_0 := blk_frozen BK224.out 0
                    have hfz52_1 := blk_frozen BK224.out 1
                    have hnb53 := NB237_225.out
                    have hnc53 := NB225_237.out
                    have hnb54 := NB237_229.out
                    have hnc54 := NB229_237.out
                    have hcz55_0 : w41.cell? ⟨gb237, 0, none⟩ = some (.int .i64 0) := (blk_cell BK237.out 0).trans rfl
                    have hcz55_1 : w41.cell? ⟨gb237, 1, none⟩ = some (.int .i64 0) := (blk_cell BK237.out 1).trans rfl
                    have hfz55_0 := blk_frozen BK237.out 0
                    have hfz55_1 := blk_frozen BK237.out 1
                    go_wp2_with (first | ((with_reducible refine gate_callee (f := 16) rfl ?_); refine goesL_ (some 48) rfl rfl Tryd.func16 (by kernel_rfl) rfl #[.agg #[.int .i64 t220, .int .i64 t221], .agg #[.int .i64 (wrap64 (1 + (wrap64 (Int.tdiv x9_2 10)))), .int .i64 (Int.tmod x9_2 10)]] rfl (by (try simp only [List.map_toArray, List.map_cons, List.map_nil]); first | done | rfl | (simp only [List.length_drop, List.length_take]; rfl)) ?_; (with_reducible refine (impl_MatchSite.calls t220 t221 (wrap64 (1 + (wrap64 (Int.tdiv x9_2 10)))) (Int.tmod x9_2 10) true _ A46.out).mono ?_); rintro e w56 ⟨rfl, hb⟩; refine ⟨_, rfl, ?_⟩; have n0_ := am (blk_below (g := gb224) (o := .cells #[.int .i64 t220, .int .i64 t221] 25 (0, 0)) (by (with_reducible repeat (first | refine blk_drewN ?_ _ | refine blk_drew ?_ | refine blk_alloc ?_ _)); refine blk_far ?_ NB224_237.out _; (with_reducible repeat (first | refine blk_drewN ?_ _ | refine blk_drew ?_ | refine blk_alloc ?_ _)); refine blk_far ?_ NB224_237.out _; (with_reducible repeat (first | refine blk_drewN ?_ _ | refine blk_drew ?_ | refine blk_alloc ?_ _)); exact BK224.out) hb); have n1_ := am (blk_below (g := gb225) (o := .cells #[.int .i64 t222, .int .i64 t223] 25 (0, 0)) (by (with_reducible repeat (first | refine blk_drewN ?_ _ | refine blk_drew ?_ | refine blk_alloc ?_ _)); refine blk_far ?_ NB225_237.out _; (with_reducible repeat (first | refine blk_drewN ?_ _ | refine blk_drew ?_ | refine blk_alloc ?_ _)); refine blk_far ?_ NB225_237.out _; (with_reducible repeat (first | refine blk_drewN ?_ _ | refine blk_drew ?_ | refine blk_alloc ?_ _)); exact BK225.out) hb); have n2_ := am (blk_below (g := gb229) (o := .cells #[.int .i64 t226, .int .i64 t227] 25 (0, 0)) (by (with_reducible repeat (first | refine blk_drewN ?_ _ | refine blk_drew ?_ | refine blk_alloc ?_ _)); refine blk_far ?_ NB229_237.out _; (with_reducible repeat (first | refine blk_drewN ?_ _ | refine blk_drew ?_ | refine blk_alloc ?_ _)); refine blk_far ?_ NB229_237.out _; (with_reducible repeat (first | refine blk_drewN ?_ _ | refine blk_drew ?_ | refine blk_alloc ?_ _)); exact BK229.out) hb); have n3_ := am (blk_below (g := gb237) (o := .cells #[.int .i64 (wrap64 (1 + (wrap64 (Int.tdiv x9_2 10)))), .int .i64 (Int.tmod x9_2 10)] 37 (0, 0)) (by (with_reducible repeat (first | refine blk_drewN ?_ _ | refine blk_drew ?_ | refine blk_alloc ?_ _)); refine blk_put (cs := #[.int .i64 (wrap64 (1 + (wrap64 (Int.tdiv x9_2 10)))), .int .i64 0]) ?_ 1 _ rfl; (with_reducible repeat (first | refine blk_drewN ?_ _ | refine blk_drew ?_ | refine blk_alloc ?_ _)); refine blk_put (cs := #[.int .i64 0, .int .i64 0]) ?_ 0 _ rfl; (with_reducible repeat (first | refine blk_drewN ?_ _ | refine blk_drew ?_ | refine blk_alloc ?_ _)); exact BK237.out) hb); have n4_ := am (below_step (by repeat (first | (with_reducible first | exact HB.out | apply below_alloc | apply pw_below_drewN | apply below_drew1 | refine below_set ?_ GE224.out | refine below_set ?_ GE225.out | refine below_set ?_ GE229.out | refine below_set ?_ GE237.out) | exact HB.out)) hb); clear BK224; clear BK225; clear BK229; clear BK237; clear HB; have BK224 := n0_; have BK225 := n1_; have BK229 := n2_; have BK237 := n3_; have HB := n4_; clear n0_ n1_ n2_ n3_ n4_; (try clear hb); (try clear hb2); (try clear hk); (try clear hi); have hnb57 := NB225_229.out; have hnc57 := NB229_225.out; obtain ⟨hcz58_0, hcz58_1, hfz58_0, hfz58_1⟩ := blk2 BK225.out; obtain ⟨hcz59_0, hcz59_1, hfz59_0, hfz59_1⟩ := blk2 BK237.out) | (go_at_call 16; (with_reducible refine (impl_MatchSite.calls t222 t223 (wrap64 (1 + (wrap64 (Int.tdiv x9_2 10)))) (Int.tmod x9_2 10) t239 _ A48.out).mono ?_); rintro e w60 ⟨rfl, hb⟩; have n0_ := am (blk_below (by (with_reducible repeat (first | refine blk_drewN ?_ _ | refine blk_drew ?_ | refine blk_alloc ?_ _)); exact BK224.out) hb); have n1_ := am (blk_below (by (with_reducible repeat (first | refine blk_drewN ?_ _ | refine blk_drew ?_ | refine blk_alloc ?_ _)); exact BK225.out) hb); have n2_ := am (blk_below (by (with_reducible repeat (first | refine blk_drewN ?_ _ | refine blk_drew ?_ | refine blk_alloc ?_ _)); exact BK229.out) hb); have n3_ := am (blk_below (by (with_reducible repeat (first | refine blk_drewN ?_ _ | refine blk_drew ?_ | refine blk_alloc ?_ _)); exact BK237.out) hb); have n4_ := am (below_step (by repeat (first | (with_reducible first | exact HB.out | apply below_alloc | apply pw_below_drewN | apply below_drew1 | refine below_set ?_ GE224.out | refine below_set ?_ GE225.out | refine below_set ?_ GE229.out | refine below_set ?_ GE237.out) | exact HB.out)) hb); clear BK224; clear BK225; clear BK229; clear BK237; clear HB; have BK224 := n0_; have BK225 := n1_; have BK229 := n2_; have BK237 := n3_; have HB := n4_; clear n0_ n1_ n2_ n3_ n4_; (try clear hb); (try clear hb2); (try clear hk); (try clear hi)))
                    go_meet
                    case rel => exact ⟨_, (t239), (by first | rfl | (simp; done) | (simp [*]; done)), H', ⟨by have := HJ8.out; have := HK2.out; first | omega | exact Nat.le_refl _⟩, ⟨by (with_reducible repeat (first | refine blk_drewN ?_ _ | refine blk_drew ?_ | refine blk_alloc ?_ _)); exact BK224.out⟩, ⟨by (with_reducible repeat (first | refine blk_drewN ?_ _ | refine blk_drew ?_ | refine blk_alloc ?_ _)); exact BK225.out⟩, ⟨by (with_reducible repeat (first | refine blk_drewN ?_ _ | refine blk_drew ?_ | refine blk_alloc ?_ _)); exact BK229.out⟩, ⟨by (with_reducible repeat (first | refine blk_drewN ?_ _ | refine blk_drew ?_ | refine blk_alloc ?_ _)); exact BK237.out⟩, ⟨by repeat (first | (with_reducible first | exact HB.out | apply below_alloc | apply pw_below_drewN | apply below_drew1 | refine below_set ?_ GE224.out | refine below_set ?_ GE225.out | refine below_set ?_ GE229.out | refine below_set ?_ GE237.out) | exact HB.out)⟩⟩
                  · replace c47 := Bool.eq_false_iff.mpr c47
                    subst c47
                    have H1 : (laws_FnSites.j2 k2 t228 x7_2 x8_2 x9_2 false t220 t221 t222 t223 t226 t227 (wrap64 (1 + (wrap64 (Int.tdiv x9_2 10)))) (Int.tmod x9_2 10)) = some r := by rw [if_neg (show ¬ (false = true) by decide)] at H; exact H
                    clear H
                    have H := H1
                    clear H1
                    have H' := Aside0.mk H
                    clear H
                    have hnb61 := NB224_225.out
                    have hnc61 := NB225_224.out
                    have hnb62 := NB224_229.out
                    have hnc62 := NB229_224.out
                    have hnb63 := NB224_237.out
                    have hnc63 := NB237_224.out
                    have hcz64_0 : w41.cell? ⟨gb224, 0, none⟩ = some (.int .i64 t220) := (blk_cell BK224.out 0).trans rfl
                    have hcz64_1 : w41.cell? ⟨gb224, 1, none⟩ = some (.int .i64 t221) := (blk_cell BK224.out 1).trans rfl
                    have hfz64_0 := blk_frozen BK224.out 0
                    have hfz64_1 := blk_frozen BK224.out 1
                    have hnb65 := NB237_225.out
                    have hnc65 := NB225_237.out
                    have hnb66 := NB237_229.out
                    have hnc66 := NB229_237.out
                    have hcz67_0 : w41.cell? ⟨gb237, 0, none⟩ = some (.int .i64 0) := (blk_cell BK237.out 0).trans rfl
                    have hcz67_1 : w41.cell? ⟨gb237, 1, none⟩ = some (.int .i64 0) := (blk_cell BK237.out 1).trans rfl
                    have hfz67_0 := blk_frozen BK237.out 0
                    have hfz67_1 := blk_frozen BK237.out 1
                    go_wp2_with (first | ((with_reducible refine gate_callee (f := 16) rfl ?_); refine goesL_ (some 48) rfl rfl Tryd.func16 (by kernel_rfl) rfl #[.agg #[.int .i64 t220, .int .i64 t221], .agg #[.int .i64 (wrap64 (1 + (wrap64 (Int.tdiv x9_2 10)))), .int .i64 (Int.tmod x9_2 10)]] rfl (by (try simp only [List.map_toArray, List.map_cons, List.map_nil]); first | done | rfl | (simp only [List.length_drop, List.length_take]; rfl)) ?_; (with_reducible refine (impl_MatchSite.calls t220 t221 (wrap64 (1 + (wrap64 (Int.tdiv x9_2 10)))) (Int.tmod x9_2 10) false _ A46.out).mono ?_); rintro e w68 ⟨rfl, hb⟩; refine ⟨_, rfl, ?_⟩; have n0_ := am (blk_below (g := gb224) (o := .cells #[.int .i64 t220, .int .i64 t221] 25 (0, 0)) (by (with_reducible repeat (first | refine blk_drewN ?_ _ | refine blk_drew ?_ | refine blk_alloc ?_ _)); refine blk_far ?_ NB224_237.out _; (with_reducible repeat (first | refine blk_drewN ?_ _ | refine blk_drew ?_ | refine blk_alloc ?_ _)); refine blk_far ?_ NB224_237.out _; (with_reducible repeat (first | refine blk_drewN ?_ _ | refine blk_drew ?_ | refine blk_alloc ?_ _)); exact BK224.out) hb); have n1_ := am (blk_below (g := gb225) (o := .cells #[.int .i64 t222, .int .i64 t223] 25 (0, 0)) (by (with_reducible repeat (first | refine blk_drewN ?_ _ | refine blk_drew ?_ | refine blk_alloc ?_ _)); refine blk_far ?_ NB225_237.out _; (with_reducible repeat (first | refine blk_drewN ?_ _ | refine blk_drew ?_ | refine blk_alloc ?_ _)); refine blk_far ?_ NB225_237.out _; (with_reducible repeat (first | refine blk_drewN ?_ _ | refine blk_drew ?_ | refine blk_alloc ?_ _)); exact BK225.out) hb); have n2_ := am (blk_below (g := gb229) (o := .cells #[.int .i64 t226, .int .i64 t227] 25 (0, 0)) (by (with_reducible repeat (first | refine blk_drewN ?_ _ | refine blk_drew ?_ | refine blk_alloc ?_ _)); refine blk_far ?_ NB229_237.out _; (with_reducible repeat (first | refine blk_drewN ?_ _ | refine blk_drew ?_ | refine blk_alloc ?_ _)); refine blk_far ?_ NB229_237.out _; (with_reducible repeat (first | refine blk_drewN ?_ _ | refine blk_drew ?_ | refine blk_alloc ?_ _)); exact BK229.out) hb); have n3_ := am (blk_below (g := gb237) (o := .cells #[.int .i64 (wrap64 (1 + (wrap64 (Int.tdiv x9_2 10)))), .int .i64 (Int.tmod x9_2 10)] 37 (0, 0)) (by (with_reducible repeat (first | refine blk_drewN ?_ _ | refine blk_drew ?_ | refine blk_alloc ?_ _)); refine blk_put (cs := #[.int .i64 (wrap64 (1 + (wrap64 (Int.tdiv x9_2 10)))), .int .i64 0]) ?_ 1 _ rfl; (with_reducible repeat (first | refine blk_drewN ?_ _ | refine blk_drew ?_ | refine blk_alloc ?_ _)); refine blk_put (cs := #[.int .i64 0, .int .i64 0]) ?_ 0 _ rfl; (with_reducible repeat (first | refine blk_drewN ?_ _ | refine blk_drew ?_ | refine blk_alloc ?_ _)); exact BK237.out) hb); have n4_ := am (below_step (by repeat (first | (with_reducible first | exact HB.out | apply below_alloc | apply pw_below_drewN | apply below_drew1 | refine below_set ?_ GE224.out | refine below_set ?_ GE225.out | refine below_set ?_ GE229.out | refine below_set ?_ GE237.out) | exact HB.out)) hb); clear BK224; clear BK225; clear BK229; clear BK237; clear HB; have BK224 := n0_; have BK225 := n1_; have BK229 := n2_; have BK237 := n3_; have HB := n4_; clear n0_ n1_ n2_ n3_ n4_; (try clear hb); (try clear hb2); (try clear hk); (try clear hi)))
                    go_meet
                    case rel => exact ⟨_, (false), (by first | rfl | (simp; done) | (simp [*]; done)), H', ⟨by have := HJ8.out; have := HK2.out; first | omega | exact Nat.le_refl _⟩, ⟨by (with_reducible repeat (first | refine blk_drewN ?_ _ | refine blk_drew ?_ | refine blk_alloc ?_ _)); exact BK224.out⟩, ⟨by (with_reducible repeat (first | refine blk_drewN ?_ _ | refine blk_drew ?_ | refine blk_alloc ?_ _)); exact BK225.out⟩, ⟨by (with_reducible repeat (first | refine blk_drewN ?_ _ | refine blk_drew ?_ | refine blk_alloc ?_ _)); exact BK229.out⟩, ⟨by (with_reducible repeat (first | refine blk_drewN ?_ _ | refine blk_drew ?_ | refine blk_alloc ?_ _)); exact BK237.out⟩, ⟨by repeat (first | (with_reducible first | exact HB.out | apply below_alloc | apply pw_below_drewN | apply below_drew1 | refine below_set ?_ GE224.out | refine below_set ?_ GE225.out | refine below_set ?_ GE229.out | refine below_set ?_ GE237.out) | exact HB.out)⟩⟩
                case rest =>
                  clear HC40
                  try clear c1
                  try clear c2
                  try clear p2
                  try clear c3
                  try clear c4
                  try clear c5
                  try clear c6
                  try clear p6
                  try clear c8
                  try clear c8b0
                  try clear c8b1
                  try clear c8b2
                  try clear c11
                  try clear c12
                  try clear c13
                  try clear c14
                  try clear c15
                  try clear c16
                  try clear c18
                  try clear c19
                  try clear c26
                  try clear c28
                  try clear c29
                  try clear c32
                  try clear c35
                  try clear c36
                  try clear c39
                  try clear c39b0
                  try clear c42
                  try clear c43
                  try clear c44
                  try clear c47
                  try clear c49
                  try clear c50
                  try clear c51
                  try clear c53
                  try clear c54
                  try clear c57
                  try clear c61
                  try clear c62
                  try clear c63
                  try clear p64
                  try clear c65
                  try clear c66
                  try clear hcz14_0
                  try clear hcz14_1
                  try clear hcz15_0
                  try clear hcz15_1
                  try clear hcz20_0
                  try clear hcz20_1
                  try clear hcz30_0
                  try clear hcz30_1
                  try clear hcz33_0
                  try clear hcz33_1
                  try clear hcz37_0
                  try clear hcz37_1
                  try clear hcz45_0
                  try clear hcz45_1
                  try clear hcz52_0
                  try clear hcz52_1
                  try clear hcz55_0
                  try clear hcz55_1
                  try clear hcz58_0
                  try clear hcz58_1
                  try clear hcz59_0
                  try clear hcz59_1
                  try clear hcz64_0
                  try clear hcz64_1
                  try clear hcz67_0
                  try clear hcz67_1
                  try clear hfz14_0
                  try clear hfz14_1
                  try clear hfz15_0
                  try clear hfz15_1
                  try clear hfz20_0
                  try clear hfz20_1
                  try clear hfz30_0
                  try clear hfz30_1
                  try clear hfz33_0
                  try clear hfz33_1
                  try clear hfz37_0
                  try clear hfz37_1
                  try clear hfz45_0
                  try clear hfz45_1
                  try clear hfz52_0
                  try clear hfz52_1
                  try clear hfz55_0
                  try clear hfz55_1
                  try clear hfz58_0
                  try clear hfz58_1
                  try clear hfz59_0
                  try clear hfz59_1
                  try clear hfz64_0
                  try clear hfz64_1
                  try clear hfz67_0
                  try clear hfz67_1
                  try clear p2
                  obtain ⟨kq, x11_39, rfl, HA, HJ39, BK224, BK225, BK229, BK237, HB⟩ := hcut
                  cases kq with
                  | zero => exact absurd HA.out (by simp [laws_FnSites.j2])
                  | succ kj39 =>
                    have H := HA.out
                    clear HA
                    simp only [laws_FnSites.j2] at H
                    have HC69 := Aside0.mk H
                    clear H
                    go_upto_region 14 with (fail)
                    go_cut [61] (fun v61 wc => ∃ (kq : Nat) (x61_68 : Bool), v61 = .bool x61_68 ∧ Aside0 (laws_FnSites.j3 kq t228 x7_2 x8_2 x9_2 x11_39 x61_68 t220 t221 t222 t223 t226 t227 (wrap64 (1 + (wrap64 (Int.tdiv x9_2 10)))) (Int.tmod x9_2 10) = some r) ∧ Aside0 (kq ≤ kj39) ∧ Aside0 (wc.heap[gb224]? = some (.cells #[.int .i64 t220, .int .i64 t221] 25 (0, 0))) ∧ Aside0 (wc.heap[gb225]? = some (.cells #[.int .i64 t222, .int .i64 t223] 25 (0, 0))) ∧ Aside0 (wc.heap[gb229]? = some (.cells #[.int .i64 t226, .int .i64 t227] 25 (0, 0))) ∧ Aside0 (wc.heap[gb237]? = some (.cells #[.int .i64 (wrap64 (1 + (wrap64 (Int.tdiv x9_2 10)))), .int .i64 (Int.tmod x9_2 10)] 37 (0, 0))) ∧ Aside0 (Below w.heap.size w wc))
                    case first =>
                      have H := HC69.out
                      clear HC69
                      by_cases c70 : t228 = true
                      · subst c70
                        have H1 : ((impl_MatchSite.f t226 t227 (wrap64 (1 + (wrap64 (Int.tdiv x9_2 10)))) (Int.tmod x9_2 10)).bind fun t240 => (laws_FnSites.j3 kj39 true x7_2 x8_2 x9_2 x11_39 (x11_39 != t240) t220 t221 t222 t223 t226 t227 (wrap64 (1 + (wrap64 (Int.tdiv x9_2 10)))) (Int.tmod x9_2 10))) = some r := by rw [if_pos rfl] at H; exact H
                        clear H
                        have H := H1
                        clear H1
                        replace H := Option.bind_eq_some_iff.mp H
                        obtain ⟨t240, A710, H⟩ := H
                        replace H : (laws_FnSites.j3 kj39 true x7_2 x8_2 x9_2 x11_39 (x11_39 != t240) t220 t221 t222 t223 t226 t227 (wrap64 (1 + (wrap64 (Int.tdiv x9_2 10)))) (Int.tmod x9_2 10)) = some r := H
                        have A71 := Aside0.mk A710
                        clear A710
                        have H' := Aside0.mk H
                        clear H
                        have hnb72 := NB229_224.out
                        have hnc72 := NB224_229.out
                        have hnb73 := NB229_225.out
                        have hnc73 := NB225_229.out
                        have hnb74 := NB229_237.out
                        have hnc74 := NB237_229.out
                        have hcz75_0 : wc.cell? ⟨gb229, 0, none⟩ = some (.int .i64 t226) := (blk_cell BK229.out 0).trans rfl
                        have hcz75_1 : wc.cell? ⟨gb229, 1, none⟩ = some (.int .i64 t227) := (blk_cell BK229.out 1).trans rfl
                        have hfz75_0 := blk_frozen BK229.out 0
                        have hfz75_1 := blk_frozen BK229.out 1
                        have hnb76 := NB237_224.out
                        have hnc76 := NB224_237.out
                        have hnb77 := NB237_225.out
                        have hnc77 := NB225_237.out
                        have hcz78_0 : wc.cell? ⟨gb237, 0, none⟩ = some (.int .i64 (wrap64 (1 + (wrap64 (Int.tdiv x9_2 10))))) := (blk_cell BK237.out 0).trans rfl
                        have hcz78_1 : wc.cell? ⟨gb237, 1, none⟩ = some (.int .i64 (Int.tmod x9_2 10)) := (blk_cell BK237.out 1).trans rfl
                        have hfz78_0 := blk_frozen BK237.out 0
                        have hfz78_1 := blk_frozen BK237.out 1
                        go_wp2_with (first | (go_at_call 16; (with_reducible refine (impl_MatchSite.calls t226 t227 (wrap64 (1 + (wrap64 (Int.tdiv x9_2 10)))) (Int.tmod x9_2 10) t240 _ A71.out).mono ?_); rintro e w79 ⟨rfl, hb⟩; have n0_ := am (blk_below (by (with_reducible repeat (first | refine blk_drewN ?_ _ | refine blk_drew ?_ | refine blk_alloc ?_ _)); exact BK224.out) hb); have n1_ := am (blk_below (by (with_reducible repeat (first | refine blk_drewN ?_ _ | refine blk_drew ?_ | refine blk_alloc ?_ _)); exact BK225.out) hb); have n2_ := am (blk_below (by (with_reducible repeat (first | refine blk_drewN ?_ _ | refine blk_drew ?_ | refine blk_alloc ?_ _)); exact BK229.out) hb); have n3_ := am (blk_below (by (with_reducible repeat (first | refine blk_drewN ?_ _ | refine blk_drew ?_ | refine blk_alloc ?_ _)); exact BK237.out) hb); have n4_ := am (below_step (by repeat (first | (with_reducible first | exact HB.out | apply below_alloc | apply pw_below_drewN | apply below_drew1 | refine below_set ?_ GE224.out | refine below_set ?_ GE225.out | refine below_set ?_ GE229.out | refine below_set ?_ GE237.out) | exact HB.out)) hb); clear BK224; clear BK225; clear BK229; clear BK237; clear HB; have BK224 := n0_; have BK225 := n1_; have BK229 := n2_; have BK237 := n3_; have HB := n4_; clear n0_ n1_ n2_ n3_ n4_; (try clear hb); (try clear hb2); (try clear hk); (try clear hi)))
                        go_meet
                        case rel => exact ⟨_, ((x11_39 != t240)), (by first | rfl | (simp; done) | (simp [*]; done)), H', ⟨by have := HJ8.out; have := HK2.out; have := HJ39.out; first | omega | exact Nat.le_refl _⟩, ⟨by (with_reducible repeat (first | refine blk_drewN ?_ _ | refine blk_drew ?_ | refine blk_alloc ?_ _)); exact BK224.out⟩, ⟨by (with_reducible repeat (first | refine blk_drewN ?_ _ | refine blk_drew ?_ | refine blk_alloc ?_ _)); exact BK225.out⟩, ⟨by (with_reducible repeat (first | refine blk_drewN ?_ _ | refine blk_drew ?_ | refine blk_alloc ?_ _)); exact BK229.out⟩, ⟨by (with_reducible repeat (first | refine blk_drewN ?_ _ | refine blk_drew ?_ | refine blk_alloc ?_ _)); exact BK237.out⟩, ⟨by repeat (first | (with_reducible first | exact HB.out | apply below_alloc | apply pw_below_drewN | apply below_drew1 | refine below_set ?_ GE224.out | refine below_set ?_ GE225.out | refine below_set ?_ GE229.out | refine below_set ?_ GE237.out) | exact HB.out)⟩⟩
                      · replace c70 := Bool.eq_false_iff.mpr c70
                        subst c70
                        have H1 : (laws_FnSites.j3 kj39 false x7_2 x8_2 x9_2 x11_39 (x11_39 != false) t220 t221 t222 t223 t226 t227 (wrap64 (1 + (wrap64 (Int.tdiv x9_2 10)))) (Int.tmod x9_2 10)) = some r := by rw [if_neg (show ¬ (false = true) by decide)] at H; exact H
                        clear H
                        have H := H1
                        clear H1
                        have H' := Aside0.mk H
                        clear H
                        go_wp2
                        go_meet
                        case rel => exact ⟨_, ((x11_39 != false)), (by first | rfl | (simp; done) | (simp [*]; done)), H', ⟨by have := HJ8.out; have := HK2.out; have := HJ39.out; first | omega | exact Nat.le_refl _⟩, ⟨by (with_reducible repeat (first | refine blk_drewN ?_ _ | refine blk_drew ?_ | refine blk_alloc ?_ _)); exact BK224.out⟩, ⟨by (with_reducible repeat (first | refine blk_drewN ?_ _ | refine blk_drew ?_ | refine blk_alloc ?_ _)); exact BK225.out⟩, ⟨by (with_reducible repeat (first | refine blk_drewN ?_ _ | refine blk_drew ?_ | refine blk_alloc ?_ _)); exact BK229.out⟩, ⟨by (with_reducible repeat (first | refine blk_drewN ?_ _ | refine blk_drew ?_ | refine blk_alloc ?_ _)); exact BK237.out⟩, ⟨by repeat (first | (with_reducible first | exact HB.out | apply below_alloc | apply pw_below_drewN | apply below_drew1 | refine below_set ?_ GE224.out | refine below_set ?_ GE225.out | refine below_set ?_ GE229.out | refine below_set ?_ GE237.out) | exact HB.out)⟩⟩
                    case rest =>
                      clear HC69
                      try clear c1
                      try clear c2
                      try clear p2
                      try clear c3
                      try clear c4
                      try clear c5
                      try clear c6
                      try clear p6
                      try clear c7
                      try clear c8
                      try clear c8b0
                      try clear c8b1
                      try clear c8b2
                      try clear c11
                      try clear c12
                      try clear c13
                      try clear c14
                      try clear c15
                      try clear c16
                      try clear c18
                      try clear c19
                      try clear c26
                      try clear c28
                      try clear c29
                      try clear c32
                      try clear c35
                      try clear c36
                      try clear c39
                      try clear c39b0
                      try clear c42
                      try clear c43
                      try clear c44
                      try clear c47
                      try clear c49
                      try clear c50
                      try clear c51
                      try clear c53
                      try clear c54
                      try clear c57
                      try clear c61
                      try clear c62
                      try clear c63
                      try clear p64
                      try clear c65
                      try clear c66
                      try clear c70
                      try clear c72
                      try clear c73
                      try clear c74
                      try clear c76
                      try clear c77
                      try clear hcz14_0
                      try clear hcz14_1
                      try clear hcz15_0
                      try clear hcz15_1
                      try clear hcz20_0
                      try clear hcz20_1
                      try clear hcz30_0
                      try clear hcz30_1
                      try clear hcz33_0
                      try clear hcz33_1
                      try clear hcz37_0
                      try clear hcz37_1
                      try clear hcz45_0
                      try clear hcz45_1
                      try clear hcz52_0
                      try clear hcz52_1
                      try clear hcz55_0
                      try clear hcz55_1
                      try clear hcz58_0
                      try clear hcz58_1
                      try clear hcz59_0
                      try clear hcz59_1
                      try clear hcz64_0
                      try clear hcz64_1
                      try clear hcz67_0
                      try clear hcz67_1
                      try clear hcz75_0
                      try clear hcz75_1
                      try clear hcz78_0
                      try clear hcz78_1
                      try clear hfz14_0
                      try clear hfz14_1
                      try clear hfz15_0
                      try clear hfz15_1
                      try clear hfz20_0
                      try clear hfz20_1
                      try clear hfz30_0
                      try clear hfz30_1
                      try clear hfz33_0
                      try clear hfz33_1
                      try clear hfz37_0
                      try clear hfz37_1
                      try clear hfz45_0
                      try clear hfz45_1
                      try clear hfz52_0
                      try clear hfz52_1
                      try clear hfz55_0
                      try clear hfz55_1
                      try clear hfz58_0
                      try clear hfz58_1
                      try clear hfz59_0
                      try clear hfz59_1
                      try clear hfz64_0
                      try clear hfz64_1
                      try clear hfz67_0
                      try clear hfz67_1
                      try clear hfz75_0
                      try clear hfz75_1
                      try clear hfz78_0
                      try clear hfz78_1
                      try clear p2
                      try clear p6
                      try clear p64
                      obtain ⟨kq, x61_68, rfl, HA, HJ68, BK224, BK225, BK229, BK237, HB⟩ := hcut
                      cases kq with
                      | zero => exact absurd HA.out (by simp [laws_FnSites.j3])
                      | succ kj68 =>
                        have H := HA.out
                        clear HA
                        simp only [laws_FnSites.j3] at H
                        by_cases c80 : x61_68 = true
                        · subst c80
                          have H1 : (some false) = some r := by rw [if_pos rfl] at H; exact H
                          clear H
                          have H := H1
                          clear H1
                          exact absurd ((Option.some.inj H).trans HRT.out) (by decide)
                        · replace c80 := Bool.eq_false_iff.mpr c80
                          subst c80
                          have H1 : (if x8_2 = true then (if x7_2 = true then ((impl_MatchSite.f t220 t221 (wrap64 (1 + (wrap64 (Int.tdiv x9_2 10)))) (Int.tmod x9_2 10)).bind fun t241 => (if t241 = true then ((impl_MatchSite.f t222 t223 (wrap64 (1 + (wrap64 (Int.tdiv x9_2 10)))) (Int.tmod x9_2 10)).bind fun t242 => (laws_FnSites.l0 kj68 t228 t242 true (wrap64 (x9_2 + 1)) t220 t221 t222 t223 t226 t227)) else (laws_FnSites.l0 kj68 t228 true true (wrap64 (x9_2 + 1)) t220 t221 t222 t223 t226 t227))) else (laws_FnSites.l0 kj68 t228 false true (wrap64 (x9_2 + 1)) t220 t221 t222 t223 t226 t227)) else (if x7_2 = true then ((impl_MatchSite.f t220 t221 (wrap64 (1 + (wrap64 (Int.tdiv x9_2 10)))) (Int.tmod x9_2 10)).bind fun t243 => (if t243 = true then ((impl_MatchSite.f t222 t223 (wrap64 (1 + (wrap64 (Int.tdiv x9_2 10)))) (Int.tmod x9_2 10)).bind fun t244 => (laws_FnSites.l0 kj68 t228 t244 x11_39 (wrap64 (x9_2 + 1)) t220 t221 t222 t223 t226 t227)) else (laws_FnSites.l0 kj68 t228 true x11_39 (wrap64 (x9_2 + 1)) t220 t221 t222 t223 t226 t227))) else (laws_FnSites.l0 kj68 t228 false x11_39 (wrap64 (x9_2 + 1)) t220 t221 t222 t223 t226 t227))) = some r := by rw [if_neg (show ¬ (false = true) by decide)] at H; exact H
                          clear H
                          have H := H1
                          clear H1
                          by_cases c81 : x8_2 = true
                          · subst c81
                            have H1 : (if x7_2 = true then ((impl_MatchSite.f t220 t221 (wrap64 (1 + (wrap64 (Int.tdiv x9_2 10)))) (Int.tmod x9_2 10)).bind fun t241 => (if t241 = true then ((impl_MatchSite.f t222 t223 (wrap64 (1 + (wrap64 (Int.tdiv x9_2 10)))) (Int.tmod x9_2 10)).bind fun t242 => (laws_FnSites.l0 kj68 t228 t242 true (wrap64 (x9_2 + 1)) t220 t221 t222 t223 t226 t227)) else (laws_FnSites.l0 kj68 t228 true true (wrap64 (x9_2 + 1)) t220 t221 t222 t223 t226 t227))) else (laws_FnSites.l0 kj68 t228 false true (wrap64 (x9_2 + 1)) t220 t221 t222 t223 t226 t227)) = some r := by rw [if_pos rfl] at H; exact H
                            clear H
                            have H := H1
                            clear H1
                            by_cases c82 : x7_2 = true
                            · subst c82
                              have H1 : ((impl_MatchSite.f t220 t221 (wrap64 (1 + (wrap64 (Int.tdiv x9_2 10)))) (Int.tmod x9_2 10)).bind fun t241 => (if t241 = true then ((impl_MatchSite.f t222 t223 (wrap64 (1 + (wrap64 (Int.tdiv x9_2 10)))) (Int.tmod x9_2 10)).bind fun t242 => (laws_FnSites.l0 kj68 t228 t242 true (wrap64 (x9_2 + 1)) t220 t221 t222 t223 t226 t227)) else (laws_FnSites.l0 kj68 t228 true true (wrap64 (x9_2 + 1)) t220 t221 t222 t223 t226 t227))) = some r := by rw [if_pos rfl] at H; exact H
                              clear H
                              have H := H1
                              clear H1
                              replace H := Option.bind_eq_some_iff.mp H
                              obtain ⟨t241, A830, H⟩ := H
                              replace H : (if t241 = true then ((impl_MatchSite.f t222 t223 (wrap64 (1 + (wrap64 (Int.tdiv x9_2 10)))) (Int.tmod x9_2 10)).bind fun t242 => (laws_FnSites.l0 kj68 t228 t242 true (wrap64 (x9_2 + 1)) t220 t221 t222 t223 t226 t227)) else (laws_FnSites.l0 kj68 t228 true true (wrap64 (x9_2 + 1)) t220 t221 t222 t223 t226 t227)) = some r := H
                              have A83 := Aside0.mk A830
                              clear A830
                              by_cases c84 : t241 = true
                              · subst c84
                                have H1 : ((impl_MatchSite.f t222 t223 (wrap64 (1 + (wrap64 (Int.tdiv x9_2 10)))) (Int.tmod x9_2 10)).bind fun t242 => (laws_FnSites.l0 kj68 t228 t242 true (wrap64 (x9_2 + 1)) t220 t221 t222 t223 t226 t227)) = some r := by rw [if_pos rfl] at H; exact H
                                clear H
                                have H := H1
                                clear H1
                                replace H := Option.bind_eq_some_iff.mp H
                                obtain ⟨t242, A850, H⟩ := H
                                replace H : (laws_FnSites.l0 kj68 t228 t242 true (wrap64 (x9_2 + 1)) t220 t221 t222 t223 t226 t227) = some r := H
                                have A85 := Aside0.mk A850
                                clear A850
                                have H' := Aside0.mk H
                                clear H
                                have hnb86 := NB224_225.out
                                have hnc86 := NB225_224.out
                                have hnb87 := NB224_229.out
                                have hnc87 := NB229_224.out
                                have hnb88 := NB224_237.out
                                have hnc88 := NB237_224.out
                                have hcz89_0 : wc.cell? ⟨gb224, 0, none⟩ = some (.int .i64 t220) := (blk_cell BK224.out 0).trans rfl
                                have hcz89_1 : wc.cell? ⟨gb224, 1, none⟩ = some (.int .i64 t221) := (blk_cell BK224.out 1).trans rfl
                                have hfz89_0 := blk_frozen BK224.out 0
                                have hfz89_1 := blk_frozen BK224.out 1
                                have hnb90 := NB237_225.out
                                have hnc90 := NB225_237.out
                                have hnb91 := NB237_229.out
                                have hnc91 := NB229_237.out
                                have hcz92_0 : wc.cell? ⟨gb237, 0, none⟩ = some (.int .i64 (wrap64 (1 + (wrap64 (Int.tdiv x9_2 10))))) := (blk_cell BK237.out 0).trans rfl
                                have hcz92_1 : wc.cell? ⟨gb237, 1, none⟩ = some (.int .i64 (Int.tmod x9_2 10)) := (blk_cell BK237.out 1).trans rfl
                                have hfz92_0 := blk_frozen BK237.out 0
                                have hfz92_1 := blk_frozen BK237.out 1
                                go_wp2_with (first | (go_at_call 16; (with_reducible refine (impl_MatchSite.calls t220 t221 (wrap64 (1 + (wrap64 (Int.tdiv x9_2 10)))) (Int.tmod x9_2 10) true _ A83.out).mono ?_); rintro e w93 ⟨rfl, hb⟩; have n0_ := am (blk_below (by (with_reducible repeat (first | refine blk_drewN ?_ _ | refine blk_drew ?_ | refine blk_alloc ?_ _)); exact BK224.out) hb); have n1_ := am (blk_below (by (with_reducible repeat (first | refine blk_drewN ?_ _ | refine blk_drew ?_ | refine blk_alloc ?_ _)); exact BK225.out) hb); have n2_ := am (blk_below (by (with_reducible repeat (first | refine blk_drewN ?_ _ | refine blk_drew ?_ | refine blk_alloc ?_ _)); exact BK229.out) hb); have n3_ := am (blk_below (by (with_reducible repeat (first | refine blk_drewN ?_ _ | refine blk_drew ?_ | refine blk_alloc ?_ _)); exact BK237.out) hb); have n4_ := am (below_step (by repeat (first | (with_reducible first | exact HB.out | apply below_alloc | apply pw_below_drewN | apply below_drew1 | refine below_set ?_ GE224.out | refine below_set ?_ GE225.out | refine below_set ?_ GE229.out | refine below_set ?_ GE237.out) | exact HB.out)) hb); clear BK224; clear BK225; clear BK229; clear BK237; clear HB; have BK224 := n0_; have BK225 := n1_; have BK229 := n2_; have BK237 := n3_; have HB := n4_; clear n0_ n1_ n2_ n3_ n4_; (try clear hb); (try clear hb2); (try clear hk); (try clear hi); have hnb94 := NB225_229.out; have hnc94 := NB229_225.out; obtain ⟨hcz95_0, hcz95_1, hfz95_0, hfz95_1⟩ := blk2 BK225.out; obtain ⟨hcz96_0, hcz96_1, hfz96_0, hfz96_1⟩ := blk2 BK237.out) | (go_at_call 16; (with_reducible refine (impl_MatchSite.calls t222 t223 (wrap64 (1 + (wrap64 (Int.tdiv x9_2 10)))) (Int.tmod x9_2 10) t242 _ A85.out).mono ?_); rintro e w97 ⟨rfl, hb⟩; have n0_ := am (blk_below (by (with_reducible repeat (first | refine blk_drewN ?_ _ | refine blk_drew ?_ | refine blk_alloc ?_ _)); exact BK224.out) hb); have n1_ := am (blk_below (by (with_reducible repeat (first | refine blk_drewN ?_ _ | refine blk_drew ?_ | refine blk_alloc ?_ _)); exact BK225.out) hb); have n2_ := am (blk_below (by (with_reducible repeat (first | refine blk_drewN ?_ _ | refine blk_drew ?_ | refine blk_alloc ?_ _)); exact BK229.out) hb); have n3_ := am (blk_below (by (with_reducible repeat (first | refine blk_drewN ?_ _ | refine blk_drew ?_ | refine blk_alloc ?_ _)); exact BK237.out) hb); have n4_ := am (below_step (by repeat (first | (with_reducible first | exact HB.out | apply below_alloc | apply pw_below_drewN | apply below_drew1 | refine below_set ?_ GE224.out | refine below_set ?_ GE225.out | refine below_set ?_ GE229.out | refine below_set ?_ GE237.out) | exact HB.out)) hb); clear BK224; clear BK225; clear BK229; clear BK237; clear HB; have BK224 := n0_; have BK225 := n1_; have BK229 := n2_; have BK237 := n3_; have HB := n4_; clear n0_ n1_ n2_ n3_ n4_; (try clear hb); (try clear hb2); (try clear hk); (try clear hi)))
                                go_roundg kj68
                                case measure => have := HJ8.out; have := HK2.out; have := HJ39.out; have := HJ68.out; omega
                                case rel => exact ⟨(t242), (true), (wrap64 (x9_2 + 1)), (by first | rfl | (simp; done) | (simp [*]; done)), (by first | rfl | (simp; done) | (simp [*]; done)), (by first | rfl | (simp; done) | (simp [*]; done)), H', ⟨by have := HJ8.out; have := HK2.out; have := HJ39.out; have := HJ68.out; omega⟩, ⟨by (with_reducible repeat (first | refine blk_drewN ?_ _ | refine blk_drew ?_ | refine blk_alloc ?_ _)); exact BK224.out⟩, ⟨by (with_reducible repeat (first | refine blk_drewN ?_ _ | refine blk_drew ?_ | refine blk_alloc ?_ _)); exact BK225.out⟩, ⟨by (with_reducible repeat (first | refine blk_drewN ?_ _ | refine blk_drew ?_ | refine blk_alloc ?_ _)); exact BK229.out⟩, ⟨by repeat (first | (with_reducible first | exact HB.out | apply below_alloc | apply pw_below_drewN | apply below_drew1 | refine below_set ?_ GE224.out | refine below_set ?_ GE225.out | refine below_set ?_ GE229.out | refine below_set ?_ GE237.out) | exact HB.out)⟩⟩
                              · replace c84 := Bool.eq_false_iff.mpr c84
                                subst c84
                                have H1 : (laws_FnSites.l0 kj68 t228 true true (wrap64 (x9_2 + 1)) t220 t221 t222 t223 t226 t227) = some r := by rw [if_neg (show ¬ (false = true) by decide)] at H; exact H
                                clear H
                                have H := H1
                                clear H1
                                have H' := Aside0.mk H
                                clear H
                                have hnb98 := NB224_225.out
                                have hnc98 := NB225_224.out
                                have hnb99 := NB224_229.out
                                have hnc99 := NB229_224.out
                                have hnb100 := NB224_237.out
                                have hnc100 := NB237_224.out
                                have hcz101_0 : wc.cell? ⟨gb224, 0, none⟩ = some (.int .i64 t220) := (blk_cell BK224.out 0).trans rfl
                                have hcz101_1 : wc.cell? ⟨gb224, 1, none⟩ = some (.int .i64 t221) := (blk_cell BK224.out 1).trans rfl
                                have hfz101_0 := blk_frozen BK224.out 0
                                have hfz101_1 := blk_frozen BK224.out 1
                                have hnb102 := NB237_225.out
                                have hnc102 := NB225_237.out
                                have hnb103 := NB237_229.out
                                have hnc103 := NB229_237.out
                                have hcz104_0 : wc.cell? ⟨gb237, 0, none⟩ = some (.int .i64 (wrap64 (1 + (wrap64 (Int.tdiv x9_2 10))))) := (blk_cell BK237.out 0).trans rfl
                                have hcz104_1 : wc.cell? ⟨gb237, 1, none⟩ = some (.int .i64 (Int.tmod x9_2 10)) := (blk_cell BK237.out 1).trans rfl
                                have hfz104_0 := blk_frozen BK237.out 0
                                have hfz104_1 := blk_frozen BK237.out 1
                                go_wp2_with (first | (go_at_call 16; (with_reducible refine (impl_MatchSite.calls t220 t221 (wrap64 (1 + (wrap64 (Int.tdiv x9_2 10)))) (Int.tmod x9_2 10) false _ A83.out).mono ?_); rintro e w105 ⟨rfl, hb⟩; have n0_ := am (blk_below (by (with_reducible repeat (first | refine blk_drewN ?_ _ | refine blk_drew ?_ | refine blk_alloc ?_ _)); exact BK224.out) hb); have n1_ := am (blk_below (by (with_reducible repeat (first | refine blk_drewN ?_ _ | refine blk_drew ?_ | refine blk_alloc ?_ _)); exact BK225.out) hb); have n2_ := am (blk_below (by (with_reducible repeat (first | refine blk_drewN ?_ _ | refine blk_drew ?_ | refine blk_alloc ?_ _)); exact BK229.out) hb); have n3_ := am (blk_below (by (with_reducible repeat (first | refine blk_drewN ?_ _ | refine blk_drew ?_ | refine blk_alloc ?_ _)); exact BK237.out) hb); have n4_ := am (below_step (by repeat (first | (with_reducible first | exact HB.out | apply below_alloc | apply pw_below_drewN | apply below_drew1 | refine below_set ?_ GE224.out | refine below_set ?_ GE225.out | refine below_set ?_ GE229.out | refine below_set ?_ GE237.out) | exact HB.out)) hb); clear BK224; clear BK225; clear BK229; clear BK237; clear HB; have BK224 := n0_; have BK225 := n1_; have BK229 := n2_; have BK237 := n3_; have HB := n4_; clear n0_ n1_ n2_ n3_ n4_; (try clear hb); (try clear hb2); (try clear hk); (try clear hi)))
                                go_roundg kj68
                                case measure => have := HJ8.out; have := HK2.out; have := HJ39.out; have := HJ68.out; omega
                                case rel => exact ⟨(true), (true), (wrap64 (x9_2 + 1)), (by first | rfl | (simp; done) | (simp [*]; done)), (by first | rfl | (simp; done) | (simp [*]; done)), (by first | rfl | (simp; done) | (simp [*]; done)), H', ⟨by have := HJ8.out; have := HK2.out; have := HJ39.out; have := HJ68.out; omega⟩, ⟨by (with_reducible repeat (first | refine blk_drewN ?_ _ | refine blk_drew ?_ | refine blk_alloc ?_ _)); exact BK224.out⟩, ⟨by (with_reducible repeat (first | refine blk_drewN ?_ _ | refine blk_drew ?_ | refine blk_alloc ?_ _)); exact BK225.out⟩, ⟨by (with_reducible repeat (first | refine blk_drewN ?_ _ | refine blk_drew ?_ | refine blk_alloc ?_ _)); exact BK229.out⟩, ⟨by repeat (first | (with_reducible first | exact HB.out | apply below_alloc | apply pw_below_drewN | apply below_drew1 | refine below_set ?_ GE224.out | refine below_set ?_ GE225.out | refine below_set ?_ GE229.out | refine below_set ?_ GE237.out) | exact HB.out)⟩⟩
                            · replace c82 := Bool.eq_false_iff.mpr c82
                              subst c82
                              have H1 : (laws_FnSites.l0 kj68 t228 false true (wrap64 (x9_2 + 1)) t220 t221 t222 t223 t226 t227) = some r := by rw [if_neg (show ¬ (false = true) by decide)] at H; exact H
                              clear H
                              have H := H1
                              clear H1
                              have H' := Aside0.mk H
                              clear H
                              go_wp2
                              go_roundg kj68
                              case measure => have := HJ8.out; have := HK2.out; have := HJ39.out; have := HJ68.out; omega
                              case rel => exact ⟨(false), (true), (wrap64 (x9_2 + 1)), (by first | rfl | (simp; done) | (simp [*]; done)), (by first | rfl | (simp; done) | (simp [*]; done)), (by first | rfl | (simp; done) | (simp [*]; done)), H', ⟨by have := HJ8.out; have := HK2.out; have := HJ39.out; have := HJ68.out; omega⟩, ⟨by (with_reducible repeat (first | refine blk_drewN ?_ _ | refine blk_drew ?_ | refine blk_alloc ?_ _)); exact BK224.out⟩, ⟨by (with_reducible repeat (first | refine blk_drewN ?_ _ | refine blk_drew ?_ | refine blk_alloc ?_ _)); exact BK225.out⟩, ⟨by (with_reducible repeat (first | refine blk_drewN ?_ _ | refine blk_drew ?_ | refine blk_alloc ?_ _)); exact BK229.out⟩, ⟨by repeat (first | (with_reducible first | exact HB.out | apply below_alloc | apply pw_below_drewN | apply below_drew1 | refine below_set ?_ GE224.out | refine below_set ?_ GE225.out | refine below_set ?_ GE229.out | refine below_set ?_ GE237.out) | exact HB.out)⟩⟩
                          · replace c81 := Bool.eq_false_iff.mpr c81
                            subst c81
                            have H1 : (if x7_2 = true then ((impl_MatchSite.f t220 t221 (wrap64 (1 + (wrap64 (Int.tdiv x9_2 10)))) (Int.tmod x9_2 10)).bind fun t243 => (if t243 = true then ((impl_MatchSite.f t222 t223 (wrap64 (1 + (wrap64 (Int.tdiv x9_2 10)))) (Int.tmod x9_2 10)).bind fun t244 => (laws_FnSites.l0 kj68 t228 t244 x11_39 (wrap64 (x9_2 + 1)) t220 t221 t222 t223 t226 t227)) else (laws_FnSites.l0 kj68 t228 true x11_39 (wrap64 (x9_2 + 1)) t220 t221 t222 t223 t226 t227))) else (laws_FnSites.l0 kj68 t228 false x11_39 (wrap64 (x9_2 + 1)) t220 t221 t222 t223 t226 t227)) = some r := by rw [if_neg (show ¬ (false = true) by decide)] at H; exact H
                            clear H
                            have H := H1
                            clear H1
                            by_cases c106 : x7_2 = true
                            · subst c106
                              have H1 : ((impl_MatchSite.f t220 t221 (wrap64 (1 + (wrap64 (Int.tdiv x9_2 10)))) (Int.tmod x9_2 10)).bind fun t243 => (if t243 = true then ((impl_MatchSite.f t222 t223 (wrap64 (1 + (wrap64 (Int.tdiv x9_2 10)))) (Int.tmod x9_2 10)).bind fun t244 => (laws_FnSites.l0 kj68 t228 t244 x11_39 (wrap64 (x9_2 + 1)) t220 t221 t222 t223 t226 t227)) else (laws_FnSites.l0 kj68 t228 true x11_39 (wrap64 (x9_2 + 1)) t220 t221 t222 t223 t226 t227))) = some r := by rw [if_pos rfl] at H; exact H
                              clear H
                              have H := H1
                              clear H1
                              replace H := Option.bind_eq_some_iff.mp H
                              obtain ⟨t243, A1070, H⟩ := H
                              replace H : (if t243 = true then ((impl_MatchSite.f t222 t223 (wrap64 (1 + (wrap64 (Int.tdiv x9_2 10)))) (Int.tmod x9_2 10)).bind fun t244 => (laws_FnSites.l0 kj68 t228 t244 x11_39 (wrap64 (x9_2 + 1)) t220 t221 t222 t223 t226 t227)) else (laws_FnSites.l0 kj68 t228 true x11_39 (wrap64 (x9_2 + 1)) t220 t221 t222 t223 t226 t227)) = some r := H
                              have A107 := Aside0.mk A1070
                              clear A1070
                              by_cases c108 : t243 = true
                              · subst c108
                                have H1 : ((impl_MatchSite.f t222 t223 (wrap64 (1 + (wrap64 (Int.tdiv x9_2 10)))) (Int.tmod x9_2 10)).bind fun t244 => (laws_FnSites.l0 kj68 t228 t244 x11_39 (wrap64 (x9_2 + 1)) t220 t221 t222 t223 t226 t227)) = some r := by rw [if_pos rfl] at H; exact H
                                clear H
                                have H := H1
                                clear H1
                                replace H := Option.bind_eq_some_iff.mp H
                                obtain ⟨t244, A1090, H⟩ := H
                                replace H : (laws_FnSites.l0 kj68 t228 t244 x11_39 (wrap64 (x9_2 + 1)) t220 t221 t222 t223 t226 t227) = some r := H
                                have A109 := Aside0.mk A1090
                                clear A1090
                                have H' := Aside0.mk H
                                clear H
                                have hnb110 := NB224_225.out
                                have hnc110 := NB225_224.out
                                have hnb111 := NB224_229.out
                                have hnc111 := NB229_224.out
                                have hnb112 := NB224_237.out
                                have hnc112 := NB237_224.out
                                have hcz113_0 : wc.cell? ⟨gb224, 0, none⟩ = some (.int .i64 t220) := (blk_cell BK224.out 0).trans rfl
                                have hcz113_1 : wc.cell? ⟨gb224, 1, none⟩ = some (.int .i64 t221) := (blk_cell BK224.out 1).trans rfl
                                have hfz113_0 := blk_frozen BK224.out 0
                                have hfz113_1 := blk_frozen BK224.out 1
                                have hnb114 := NB237_225.out
                                have hnc114 := NB225_237.out
                                have hnb115 := NB237_229.out
                                have hnc115 := NB229_237.out
                                have hcz116_0 : wc.cell? ⟨gb237, 0, none⟩ = some (.int .i64 (wrap64 (1 + (wrap64 (Int.tdiv x9_2 10))))) := (blk_cell BK237.out 0).trans rfl
                                have hcz116_1 : wc.cell? ⟨gb237, 1, none⟩ = some (.int .i64 (Int.tmod x9_2 10)) := (blk_cell BK237.out 1).trans rfl
                                have hfz116_0 := blk_frozen BK237.out 0
                                have hfz116_1 := blk_frozen BK237.out 1
                                go_wp2_with (first | (go_at_call 16; (with_reducible refine (impl_MatchSite.calls t220 t221 (wrap64 (1 + (wrap64 (Int.tdiv x9_2 10)))) (Int.tmod x9_2 10) true _ A107.out).mono ?_); rintro e w117 ⟨rfl, hb⟩; have n0_ := am (blk_below (by (with_reducible repeat (first | refine blk_drewN ?_ _ | refine blk_drew ?_ | refine blk_alloc ?_ _)); exact BK224.out) hb); have n1_ := am (blk_below (by (with_reducible repeat (first | refine blk_drewN ?_ _ | refine blk_drew ?_ | refine blk_alloc ?_ _)); exact BK225.out) hb); have n2_ := am (blk_below (by (with_reducible repeat (first | refine blk_drewN ?_ _ | refine blk_drew ?_ | refine blk_alloc ?_ _)); exact BK229.out) hb); have n3_ := am (blk_below (by (with_reducible repeat (first | refine blk_drewN ?_ _ | refine blk_drew ?_ | refine blk_alloc ?_ _)); exact BK237.out) hb); have n4_ := am (below_step (by repeat (first | (with_reducible first | exact HB.out | apply below_alloc | apply pw_below_drewN | apply below_drew1 | refine below_set ?_ GE224.out | refine below_set ?_ GE225.out | refine below_set ?_ GE229.out | refine below_set ?_ GE237.out) | exact HB.out)) hb); clear BK224; clear BK225; clear BK229; clear BK237; clear HB; have BK224 := n0_; have BK225 := n1_; have BK229 := n2_; have BK237 := n3_; have HB := n4_; clear n0_ n1_ n2_ n3_ n4_; (try clear hb); (try clear hb2); (try clear hk); (try clear hi); have hnb118 := NB225_229.out; have hnc118 := NB229_225.out; obtain ⟨hcz119_0, hcz119_1, hfz119_0, hfz119_1⟩ := blk2 BK225.out; obtain ⟨hcz120_0, hcz120_1, hfz120_0, hfz120_1⟩ := blk2 BK237.out) | (go_at_call 16; (with_reducible refine (impl_MatchSite.calls t222 t223 (wrap64 (1 + (wrap64 (Int.tdiv x9_2 10)))) (Int.tmod x9_2 10) t244 _ A109.out).mono ?_); rintro e w121 ⟨rfl, hb⟩; have n0_ := am (blk_below (by (with_reducible repeat (first | refine blk_drewN ?_ _ | refine blk_drew ?_ | refine blk_alloc ?_ _)); exact BK224.out) hb); have n1_ := am (blk_below (by (with_reducible repeat (first | refine blk_drewN ?_ _ | refine blk_drew ?_ | refine blk_alloc ?_ _)); exact BK225.out) hb); have n2_ := am (blk_below (by (with_reducible repeat (first | refine blk_drewN ?_ _ | refine blk_drew ?_ | refine blk_alloc ?_ _)); exact BK229.out) hb); have n3_ := am (blk_below (by (with_reducible repeat (first | refine blk_drewN ?_ _ | refine blk_drew ?_ | refine blk_alloc ?_ _)); exact BK237.out) hb); have n4_ := am (below_step (by repeat (first | (with_reducible first | exact HB.out | apply below_alloc | apply pw_below_drewN | apply below_drew1 | refine below_set ?_ GE224.out | refine below_set ?_ GE225.out | refine below_set ?_ GE229.out | refine below_set ?_ GE237.out) | exact HB.out)) hb); clear BK224; clear BK225; clear BK229; clear BK237; clear HB; have BK224 := n0_; have BK225 := n1_; have BK229 := n2_; have BK237 := n3_; have HB := n4_; clear n0_ n1_ n2_ n3_ n4_; (try clear hb); (try clear hb2); (try clear hk); (try clear hi)))
                                go_roundg kj68
                                case measure => have := HJ8.out; have := HK2.out; have := HJ39.out; have := HJ68.out; omega
                                case rel => exact ⟨(t244), (x11_39), (wrap64 (x9_2 + 1)), (by first | rfl | (simp; done) | (simp [*]; done)), (by first | rfl | (simp; done) | (simp [*]; done)), (by first | rfl | (simp; done) | (simp [*]; done)), H', ⟨by have := HJ8.out; have := HK2.out; have := HJ39.out; have := HJ68.out; omega⟩, ⟨by (with_reducible repeat (first | refine blk_drewN ?_ _ | refine blk_drew ?_ | refine blk_alloc ?_ _)); exact BK224.out⟩, ⟨by (with_reducible repeat (first | refine blk_drewN ?_ _ | refine blk_drew ?_ | refine blk_alloc ?_ _)); exact BK225.out⟩, ⟨by (with_reducible repeat (first | refine blk_drewN ?_ _ | refine blk_drew ?_ | refine blk_alloc ?_ _)); exact BK229.out⟩, ⟨by repeat (first | (with_reducible first | exact HB.out | apply below_alloc | apply pw_below_drewN | apply below_drew1 | refine below_set ?_ GE224.out | refine below_set ?_ GE225.out | refine below_set ?_ GE229.out | refine below_set ?_ GE237.out) | exact HB.out)⟩⟩
                              · replace c108 := Bool.eq_false_iff.mpr c108
                                subst c108
                                have H1 : (laws_FnSites.l0 kj68 t228 true x11_39 (wrap64 (x9_2 + 1)) t220 t221 t222 t223 t226 t227) = some r := by rw [if_neg (show ¬ (false = true) by decide)] at H; exact H
                                clear H
                                have H := H1
                                clear H1
                                have H' := Aside0.mk H
                                clear H
                                have hnb122 := NB224_225.out
                                have hnc122 := NB225_224.out
                                have hnb123 := NB224_229.out
                                have hnc123 := NB229_224.out
                                have hnb124 := NB224_237.out
                                have hnc124 := NB237_224.out
                                have hcz125_0 : wc.cell? ⟨gb224, 0, none⟩ = some (.int .i64 t220) := (blk_cell BK224.out 0).trans rfl
                                have hcz125_1 : wc.cell? ⟨gb224, 1, none⟩ = some (.int .i64 t221) := (blk_cell BK224.out 1).trans rfl
                                have hfz125_0 := blk_frozen BK224.out 0
                                have hfz125_1 := blk_frozen BK224.out 1
                                have hnb126 := NB237_225.out
                                have hnc126 := NB225_237.out
                                have hnb127 := NB237_229.out
                                have hnc127 := NB229_237.out
                                have hcz128_0 : wc.cell? ⟨gb237, 0, none⟩ = some (.int .i64 (wrap64 (1 + (wrap64 (Int.tdiv x9_2 10))))) := (blk_cell BK237.out 0).trans rfl
                                have hcz128_1 : wc.cell? ⟨gb237, 1, none⟩ = some (.int .i64 (Int.tmod x9_2 10)) := (blk_cell BK237.out 1).trans rfl
                                have hfz128_0 := blk_frozen BK237.out 0
                                have hfz128_1 := blk_frozen BK237.out 1
                                go_wp2_with (first | (go_at_call 16; (with_reducible refine (impl_MatchSite.calls t220 t221 (wrap64 (1 + (wrap64 (Int.tdiv x9_2 10)))) (Int.tmod x9_2 10) false _ A107.out).mono ?_); rintro e w129 ⟨rfl, hb⟩; have n0_ := am (blk_below (by (with_reducible repeat (first | refine blk_drewN ?_ _ | refine blk_drew ?_ | refine blk_alloc ?_ _)); exact BK224.out) hb); have n1_ := am (blk_below (by (with_reducible repeat (first | refine blk_drewN ?_ _ | refine blk_drew ?_ | refine blk_alloc ?_ _)); exact BK225.out) hb); have n2_ := am (blk_below (by (with_reducible repeat (first | refine blk_drewN ?_ _ | refine blk_drew ?_ | refine blk_alloc ?_ _)); exact BK229.out) hb); have n3_ := am (blk_below (by (with_reducible repeat (first | refine blk_drewN ?_ _ | refine blk_drew ?_ | refine blk_alloc ?_ _)); exact BK237.out) hb); have n4_ := am (below_step (by repeat (first | (with_reducible first | exact HB.out | apply below_alloc | apply pw_below_drewN | apply below_drew1 | refine below_set ?_ GE224.out | refine below_set ?_ GE225.out | refine below_set ?_ GE229.out | refine below_set ?_ GE237.out) | exact HB.out)) hb); clear BK224; clear BK225; clear BK229; clear BK237; clear HB; have BK224 := n0_; have BK225 := n1_; have BK229 := n2_; have BK237 := n3_; have HB := n4_; clear n0_ n1_ n2_ n3_ n4_; (try clear hb); (try clear hb2); (try clear hk); (try clear hi)))
                                go_roundg kj68
                                case measure => have := HJ8.out; have := HK2.out; have := HJ39.out; have := HJ68.out; omega
                                case rel => exact ⟨(true), (x11_39), (wrap64 (x9_2 + 1)), (by first | rfl | (simp; done) | (simp [*]; done)), (by first | rfl | (simp; done) | (simp [*]; done)), (by first | rfl | (simp; done) | (simp [*]; done)), H', ⟨by have := HJ8.out; have := HK2.out; have := HJ39.out; have := HJ68.out; omega⟩, ⟨by (with_reducible repeat (first | refine blk_drewN ?_ _ | refine blk_drew ?_ | refine blk_alloc ?_ _)); exact BK224.out⟩, ⟨by (with_reducible repeat (first | refine blk_drewN ?_ _ | refine blk_drew ?_ | refine blk_alloc ?_ _)); exact BK225.out⟩, ⟨by (with_reducible repeat (first | refine blk_drewN ?_ _ | refine blk_drew ?_ | refine blk_alloc ?_ _)); exact BK229.out⟩, ⟨by repeat (first | (with_reducible first | exact HB.out | apply below_alloc | apply pw_below_drewN | apply below_drew1 | refine below_set ?_ GE224.out | refine below_set ?_ GE225.out | refine below_set ?_ GE229.out | refine below_set ?_ GE237.out) | exact HB.out)⟩⟩
                            · replace c106 := Bool.eq_false_iff.mpr c106
                              subst c106
                              have H1 : (laws_FnSites.l0 kj68 t228 false x11_39 (wrap64 (x9_2 + 1)) t220 t221 t222 t223 t226 t227) = some r := by rw [if_neg (show ¬ (false = true) by decide)] at H; exact H
                              clear H
                              have H := H1
                              clear H1
                              have H' := Aside0.mk H
                              clear H
                              go_wp2
                              go_roundg kj68
                              case measure => have := HJ8.out; have := HK2.out; have := HJ39.out; have := HJ68.out; omega
                              case rel => exact ⟨(false), (x11_39), (wrap64 (x9_2 + 1)), (by first | rfl | (simp; done) | (simp [*]; done)), (by first | rfl | (simp; done) | (simp [*]; done)), (by first | rfl | (simp; done) | (simp [*]; done)), H', ⟨by have := HJ8.out; have := HK2.out; have := HJ39.out; have := HJ68.out; omega⟩, ⟨by (with_reducible repeat (first | refine blk_drewN ?_ _ | refine blk_drew ?_ | refine blk_alloc ?_ _)); exact BK224.out⟩, ⟨by (with_reducible repeat (first | refine blk_drewN ?_ _ | refine blk_drew ?_ | refine blk_alloc ?_ _)); exact BK225.out⟩, ⟨by (with_reducible repeat (first | refine blk_drewN ?_ _ | refine blk_drew ?_ | refine blk_alloc ?_ _)); exact BK229.out⟩, ⟨by repeat (first | (with_reducible first | exact HB.out | apply below_alloc | apply pw_below_drewN | apply below_drew1 | refine below_set ?_ GE224.out | refine below_set ?_ GE225.out | refine below_set ?_ GE229.out | refine below_set ?_ GE237.out) | exact HB.out)⟩⟩
              · rw [if_neg c39] at H
                have c39b0 : decide (x9_2 < 90) = false := decide_eq_false c39
                clear c39
                by_cases c130 : (x8_2 == t228) = true
                · rw [if_pos c130] at H
                  have c130b0 : (x8_2 == t228) = true := c130
                  (try (have c130b1 : decide (x8_2 = t228) = true := by simpa using c130))
                  (try (have c130b2 : (x8_2 == t228) = true := by simpa using c130))
                  clear c130
                  replace H := Option.bind_eq_some_iff.mp H
                  obtain ⟨t234, A1310, H⟩ := H
                  replace H : (if (x7_2 == t234) = true then ((impl_PatternText.f t220 t221).bind fun t235 => ((impl_IsPattern.f t220 t221).bind fun t236 => (some ((t235.toList != ([] : List UInt8)) == t236)))) else (some false)) = some r := H
                  have A131 := Aside0.mk A1310
                  clear A1310
                  by_cases c132 : (x7_2 == t234) = true
                  · rw [if_pos c132] at H
                    have c132b0 : (x7_2 == t234) = true := c132
                    (try (have c132b1 : decide (x7_2 = t234) = true := by simpa using c132))
                    (try (have c132b2 : (x7_2 == t234) = true := by simpa using c132))
                    clear c132
                    replace H := Option.bind_eq_some_iff.mp H
                    obtain ⟨t235, A1330, H⟩ := H
                    replace H : ((impl_IsPattern.f t220 t221).bind fun t236 => (some ((t235.toList != ([] : List UInt8)) == t236))) = some r := H
                    have A133 := Aside0.mk A1330
                    clear A1330
                    replace H := Option.bind_eq_some_iff.mp H
                    obtain ⟨t236, A1340, H⟩ := H
                    replace H : (some ((t235.toList != ([] : List UInt8)) == t236)) = some r := H
                    have A134 := Aside0.mk A1340
                    clear A1340
                    obtain rfl := Option.some.inj H
                    try go_wp2
                    have n0_ := am (blk_drew BK224.out)
                    have n1_ := am (blk_drew BK225.out)
                    have n2_ := am (blk_drew BK229.out)
                    have n3_ := am (below_drew1 HB.out)
                    clear BK224
                    clear BK225
                    clear BK229
                    clear HB
                    have BK224 := n0_
                    have BK225 := n1_
                    have BK229 := n2_
                    have HB := n3_
                    clear n0_ n1_ n2_ n3_
                    refine start_ (n := 19) (S := fun w' => w'.cell? ⟨gb224, 0, none⟩ = some (.int .i64 t220) ∧ w'.cell? ⟨gb224, 1, none⟩ = some (.int .i64 t221) ∧ w'.cell? ⟨gb225, 0, none⟩ = some (.int .i64 t222) ∧ w'.cell? ⟨gb225, 1, none⟩ = some (.int .i64 t223)) (ds := []) #[false, false, false, false, false, false, false, false, false, false, false, false, false, false, false, false, false, false, false] (by kernel_rfl) rfl rfl ⟨(blk_cell BK224.out 0).trans rfl, (blk_cell BK224.out 1).trans rfl, (blk_cell BK225.out 0).trans rfl, (blk_cell BK225.out 1).trans rfl⟩ (fun hHeld => ?_); refine with_tabW laws_FnSites.tab18 laws_FnSites.bits18 (fun HT_ HW_ => ?_)
                    generalize wr.drew = w135 at BK224 BK225 BK229 HB hHeld ⊢
                    refine pure_ (i := 0) (N := some 78) (v := ?_) (a' := ?_) #[true, false, false, false, false, false, false, false, false, false, false, false, false, false, false, false, false, false, false] rfl rfl (any_of HT_.out (by kernel_rfl)) (fun _ _ _ h => h) (Or.inl ⟨by rfl, ?_⟩) ?_ ?_
                    rotate_left
                    · intro w'
                      go_simp
                      with_reducible rfl
                    rotate_left
                    · simp only [Act.put, List.setIfInBounds_toArray, List.set_cons_zero, List.set_cons_succ, i64_w, i32_w]
                      rfl
                    refine pure_ (i := 1) (N := some 79) (v := ?_) (a' := ?_) #[true, true, false, false, false, false, false, false, false, false, false, false, false, false, false, false, false, false, false] rfl rfl (any_of HT_.out (by kernel_rfl)) (fun _ _ _ h => h) (Or.inl ⟨by rfl, ?_⟩) ?_ ?_
                    rotate_left
                    · intro w'
                      go_simp
                      with_reducible rfl
                    rotate_left
                    · simp only [Act.put, List.setIfInBounds_toArray, List.set_cons_zero, List.set_cons_succ, i64_w, i32_w]
                      rfl
                    refine pure_ (i := 2) (N := some 80) (v := ?_) (a' := ?_) #[true, true, true, false, false, false, false, false, false, false, false, false, false, false, false, false, false, false, false] rfl rfl (any_of HT_.out (by kernel_rfl)) (fun _ _ _ h => h) (Or.inl ⟨by rfl, ?_⟩) ?_ ?_
                    rotate_left
                    · intro w'
                      go_simp
                      with_reducible rfl
                    rotate_left
                    · simp only [Act.put, List.setIfInBounds_toArray, List.set_cons_zero, List.set_cons_succ, i64_w, i32_w]
                      rfl
                    refine pure_ (i := 3) (N := some 81) (v := ?_) (a' := ?_) #[true, true, true, true, false, false, false, false, false, false, false, false, false, false, false, false, false, false, false] rfl rfl (any_of HT_.out (by kernel_rfl)) (fun _ _ _ h => h) (Or.inl ⟨by rfl, ?_⟩) ?_ ?_
                    rotate_left
                    · intro w'
                      go_simp
                      with_reducible rfl
                    rotate_left
                    · simp only [Act.put, List.setIfInBounds_toArray, List.set_cons_zero, List.set_cons_succ, i64_w, i32_w]
                      rfl
                    refine pure_ (i := 4) (N := some 82) (v := ?_) (a' := ?_) #[true, true, true, true, true, false, false, false, false, false, false, false, false, false, false, false, false, false, false] rfl rfl (any_of HT_.out (by kernel_rfl)) (fun _ _ _ h => h) (Or.inl ⟨by rfl, ?_⟩) ?_ ?_
                    rotate_left
                    · intro w'
                      go_simp
                      with_reducible rfl
                    rotate_left
                    · simp only [Act.put, List.setIfInBounds_toArray, List.set_cons_zero, List.set_cons_succ, i64_w, i32_w]
                      rfl
                    refine take_ (i := 5) (N := some 83) (v := ?_) (a' := ?_) #[true, true, true, true, true, true, false, false, false, false, false, false, false, false, false, false, false, false, false] rfl rfl (take_ofW HT_.out HW_.out (by kernel_rfl)) (fun _ _ _ h => h) (Or.inl ⟨by rfl, ?_⟩) hHeld ?_ ?_
                    rotate_left
                    · rintro w' ⟨s0, s1, s2, s3⟩
                      go_simp
                      with_reducible rfl
                    rotate_left
                    · simp only [Act.put, List.setIfInBounds_toArray, List.set_cons_zero, List.set_cons_succ, i64_w, i32_w]
                      rfl
                    refine take_ (i := 6) (N := some 84) (v := ?_) (a' := ?_) #[true, true, true, true, true, true, true, false, false, false, false, false, false, false, false, false, false, false, false] rfl rfl (take_ofW HT_.out HW_.out (by kernel_rfl)) (fun _ _ _ h => h) (Or.inl ⟨by rfl, ?_⟩) hHeld ?_ ?_
                    rotate_left
                    · rintro w' ⟨s0, s1, s2, s3⟩
                      go_simp
                      with_reducible rfl
                    rotate_left
                    · simp only [Act.put, List.setIfInBounds_toArray, List.set_cons_zero, List.set_cons_succ, i64_w, i32_w]
                      rfl
                    refine one_ (i := 7) (N := some 85) #[true, true, true, true, true, true, true, true, false, false, false, false, false, false, false, false, false, false, false] rfl rfl (one_of HT_.out (by kernel_rfl)) (by decide) (fun K hK => ?_)
                    refine goes_ Tryd.func17 (by kernel_rfl) rfl #[.agg #[.int .i64 t220, .int .i64 t221], .agg #[.int .i64 t222, .int .i64 t223]] (by rfl) rfl rfl (by (try simp only [List.map_toArray, List.map_cons, List.map_nil]); first | done | rfl | (simp only [List.length_drop, List.length_take]; rfl)) ?_
                    with_reducible refine (impl_IsNarrower.calls t220 t221 t222 t223 t234 _ A131.out).mono ?_
                    rintro e w136 ⟨rfl, hb⟩
                    refine ⟨_, rfl, ?_⟩
                    have n0_ := am (blk_below (by (with_reducible repeat (first | refine blk_drewN ?_ _ | refine blk_drew ?_ | refine blk_alloc ?_ _)); exact BK224.out) hb)
                    have n1_ := am (blk_below (by (with_reducible repeat (first | refine blk_drewN ?_ _ | refine blk_drew ?_ | refine blk_alloc ?_ _)); exact BK225.out) hb)
                    have n2_ := am (blk_below (by (with_reducible repeat (first | refine blk_drewN ?_ _ | refine blk_drew ?_ | refine blk_alloc ?_ _)); exact BK229.out) hb)
                    have n3_ := am (below_step (by repeat (first | (with_reducible first | exact HB.out | apply below_alloc | apply pw_below_drewN | apply below_drew1 | refine below_set ?_ GE224.out | refine below_set ?_ GE225.out | refine below_set ?_ GE229.out) | exact HB.out)) hb)
                    clear BK224
                    clear BK225
                    clear BK229
                    clear HB
                    have BK224 := n0_
                    have BK225 := n1_
                    have BK229 := n2_
                    have HB := n3_
                    clear n0_ n1_ n2_ n3_
                    (try clear hb)
                    (try clear hb2)
                    (try clear hk)
                    (try clear hi)
                    refine hK.out _ _ ⟨(blk_cell BK224.out 0).trans rfl, (blk_cell BK224.out 1).trans rfl, (blk_cell BK225.out 0).trans rfl, (blk_cell BK225.out 1).trans rfl⟩ (fun hHeld => ?_)
                    clear hK K
                    refine norm_ (a' := ?_) ?_ ?_
                    rotate_left
                    · show Act.put _ (some 85) _ = _
                      simp only [Act.put, List.setIfInBounds_toArray, List.set_cons_zero, List.set_cons_succ, i64_w, i32_w]
                      rfl
                    refine pure_ (i := 8) (N := some 86) (v := ?_) (a' := ?_) #[true, true, true, true, true, true, true, true, true, false, false, false, false, false, false, false, false, false, false] rfl rfl (any_of HT_.out (by kernel_rfl)) (fun _ _ _ h => h) (Or.inl ⟨by rfl, ?_⟩) ?_ ?_
                    rotate_left
                    · intro w'
                      go_simp
                      with_reducible rfl
                    rotate_left
                    · simp only [Act.put, List.setIfInBounds_toArray, List.set_cons_zero, List.set_cons_succ, i64_w, i32_w]
                      rfl
                    refine pure_ (i := 9) (N := some 87) (v := ?_) (a' := ?_) #[true, true, true, true, true, true, true, true, true, true, false, false, false, false, false, false, false, false, false] rfl rfl (any_of HT_.out (by kernel_rfl)) (fun _ _ _ h => h) (Or.inl ⟨by rfl, ?_⟩) ?_ ?_
                    rotate_left
                    · intro w'
                      go_simp
                      with_reducible rfl
                    rotate_left
                    · simp only [Act.put, List.setIfInBounds_toArray, List.set_cons_zero, List.set_cons_succ, i64_w, i32_w]
                      rfl
                    refine pure_ (i := 10) (N := some 88) (v := ?_) (a' := ?_) #[true, true, true, true, true, true, true, true, true, true, true, false, false, false, false, false, false, false, false] rfl rfl (any_of HT_.out (by kernel_rfl)) (fun _ _ _ h => h) (Or.inl ⟨by rfl, ?_⟩) ?_ ?_
                    rotate_left
                    · intro w'
                      go_simp
                      with_reducible rfl
                    rotate_left
                    · simp only [Act.put, List.setIfInBounds_toArray, List.set_cons_zero, List.set_cons_succ, i64_w, i32_w]
                      rfl
                    refine take_ (i := 11) (N := some 89) (v := ?_) (a' := ?_) #[true, true, true, true, true, true, true, true, true, true, true, true, false, false, false, false, false, false, false] rfl rfl (take_ofW HT_.out HW_.out (by kernel_rfl)) (fun _ _ _ h => h) (Or.inl ⟨by rfl, ?_⟩) hHeld ?_ ?_
                    rotate_left
                    · rintro w' ⟨s0, s1, s2, s3⟩
                      go_simp
                      with_reducible rfl
                    rotate_left
                    · simp only [Act.put, List.setIfInBounds_toArray, List.set_cons_zero, List.set_cons_succ, i64_w, i32_w]
                      rfl
                    refine take_ (i := 14) (N := some 92) (v := ?_) (a' := ?_) #[true, true, true, true, true, true, true, true, true, true, true, true, false, false, true, false, false, false, false] rfl rfl (take_ofW HT_.out HW_.out (by kernel_rfl)) (fun _ _ _ h => h) (Or.inl ⟨by rfl, ?_⟩) hHeld ?_ ?_
                    rotate_left
                    · rintro w' ⟨s0, s1, s2, s3⟩
                      go_simp
                      with_reducible rfl
                    rotate_left
                    · simp only [Act.put, List.setIfInBounds_toArray, List.set_cons_zero, List.set_cons_succ, i64_w, i32_w]
                      rfl
                    refine one_ (i := 12) (N := some 90) #[true, true, true, true, true, true, true, true, true, true, true, true, true, false, true, false, false, false, false] rfl rfl (one_of HT_.out (by kernel_rfl)) (by decide) (fun K hK => ?_)
                    refine goes_ Tryd.func8 (by kernel_rfl) rfl #[.agg #[.int .i64 t220, .int .i64 t221]] (by rfl) rfl rfl (by (try simp only [List.map_toArray, List.map_cons, List.map_nil]); first | done | rfl | (simp only [List.length_drop, List.length_take]; rfl)) ?_
                    with_reducible refine (impl_PatternText.calls t220 t221 t235 _ A133.out).mono ?_
                    rintro e w137 ⟨rfl, hb⟩
                    refine ⟨_, rfl, ?_⟩
                    have n0_ := am (blk_below (by (with_reducible repeat (first | refine blk_drewN ?_ _ | refine blk_drew ?_ | refine blk_alloc ?_ _)); exact BK224.out) hb)
                    have n1_ := am (blk_below (by (with_reducible repeat (first | refine blk_drewN ?_ _ | refine blk_drew ?_ | refine blk_alloc ?_ _)); exact BK225.out) hb)
                    have n2_ := am (blk_below (by (with_reducible repeat (first | refine blk_drewN ?_ _ | refine blk_drew ?_ | refine blk_alloc ?_ _)); exact BK229.out) hb)
                    have n3_ := am (below_step (by repeat (first | (with_reducible first | exact HB.out | apply below_alloc | apply pw_below_drewN | apply below_drew1 | refine below_set ?_ GE224.out | refine below_set ?_ GE225.out | refine below_set ?_ GE229.out) | exact HB.out)) hb)
                    clear BK224
                    clear BK225
                    clear BK229
                    clear HB
                    have BK224 := n0_
                    have BK225 := n1_
                    have BK229 := n2_
                    have HB := n3_
                    clear n0_ n1_ n2_ n3_
                    (try clear hb)
                    (try clear hb2)
                    (try clear hk)
                    (try clear hi)
                    refine hK.out _ _ ⟨(blk_cell BK224.out 0).trans rfl, (blk_cell BK224.out 1).trans rfl, (blk_cell BK225.out 0).trans rfl, (blk_cell BK225.out 1).trans rfl⟩ (fun hHeld => ?_)
                    clear hK K
                    refine norm_ (a' := ?_) ?_ ?_
                    rotate_left
                    · show Act.put _ (some 90) _ = _
                      simp only [Act.put, List.setIfInBounds_toArray, List.set_cons_zero, List.set_cons_succ, i64_w, i32_w]
                      rfl
                    refine pure_ (i := 13) (N := some 91) (v := ?_) (a' := ?_) #[true, true, true, true, true, true, true, true, true, true, true, true, true, true, true, false, false, false, false] rfl rfl (any_of HT_.out (by kernel_rfl)) (fun _ _ _ h => h) (Or.inl ⟨by rfl, ?_⟩) ?_ ?_
                    rotate_left
                    · intro w'
                      go_simp
                      with_reducible rfl
                    rotate_left
                    · simp only [Act.put, List.setIfInBounds_toArray, List.set_cons_zero, List.set_cons_succ, i64_w, i32_w]
                      rfl
                    refine one_ (i := 15) (N := some 93) #[true, true, true, true, true, true, true, true, true, true, true, true, true, true, true, true, false, false, false] rfl rfl (one_of HT_.out (by kernel_rfl)) (by decide) (fun K hK => ?_)
                    refine goes_ Tryd.func14 (by kernel_rfl) rfl #[.agg #[.int .i64 t220, .int .i64 t221]] (by rfl) rfl rfl (by (try simp only [List.map_toArray, List.map_cons, List.map_nil]); first | done | rfl | (simp only [List.length_drop, List.length_take]; rfl)) ?_
                    with_reducible refine (impl_IsPattern.calls t220 t221 t236 _ A134.out).mono ?_
                    rintro e w138 ⟨rfl, hb⟩
                    refine ⟨_, rfl, ?_⟩
                    have n0_ := am (blk_below (by (with_reducible repeat (first | refine blk_drewN ?_ _ | refine blk_drew ?_ | refine blk_alloc ?_ _)); exact BK224.out) hb)
                    have n1_ := am (blk_below (by (with_reducible repeat (first | refine blk_drewN ?_ _ | refine blk_drew ?_ | refine blk_alloc ?_ _)); exact BK225.out) hb)
                    have n2_ := am (blk_below (by (with_reducible repeat (first | refine blk_drewN ?_ _ | refine blk_drew ?_ | refine blk_alloc ?_ _)); exact BK229.out) hb)
                    have n3_ := am (below_step (by repeat (first | (with_reducible first | exact HB.out | apply below_alloc | apply pw_below_drewN | apply below_drew1 | refine below_set ?_ GE224.out | refine below_set ?_ GE225.out | refine below_set ?_ GE229.out) | exact HB.out)) hb)
                    clear BK224
                    clear BK225
                    clear BK229
                    clear HB
                    have BK224 := n0_
                    have BK225 := n1_
                    have BK229 := n2_
                    have HB := n3_
                    clear n0_ n1_ n2_ n3_
                    (try clear hb)
                    (try clear hb2)
                    (try clear hk)
                    (try clear hi)
                    refine hK.out _ _ ⟨(blk_cell BK224.out 0).trans rfl, (blk_cell BK224.out 1).trans rfl, (blk_cell BK225.out 0).trans rfl, (blk_cell BK225.out 1).trans rfl⟩ (fun hHeld => ?_)
                    clear hK K
                    refine norm_ (a' := ?_) ?_ ?_
                    rotate_left
                    · show Act.put _ (some 93) _ = _
                      simp only [Act.put, List.setIfInBounds_toArray, List.set_cons_zero, List.set_cons_succ, i64_w, i32_w]
                      rfl
                    refine pure_ (i := 16) (N := some 94) (v := ?_) (a' := ?_) #[true, true, true, true, true, true, true, true, true, true, true, true, true, true, true, true, true, false, false] rfl rfl (any_of HT_.out (by kernel_rfl)) (fun _ _ _ h => h) (Or.inl ⟨by rfl, ?_⟩) ?_ ?_
                    rotate_left
                    · intro w'
                      go_simp
                      with_reducible rfl
                    rotate_left
                    · simp only [Act.put, List.setIfInBounds_toArray, List.set_cons_zero, List.set_cons_succ, i64_w, i32_w]
                      rfl
                    refine pure_ (i := 17) (N := some 95) (v := ?_) (a' := ?_) #[true, true, true, true, true, true, true, true, true, true, true, true, true, true, true, true, true, true, false] rfl rfl (any_of HT_.out (by kernel_rfl)) (fun _ _ _ h => h) (Or.inl ⟨by rfl, ?_⟩) ?_ ?_
                    rotate_left
                    · intro w'
                      go_simp
                      with_reducible rfl
                    rotate_left
                    · simp only [Act.put, List.setIfInBounds_toArray, List.set_cons_zero, List.set_cons_succ, i64_w, i32_w]
                      rfl
                    refine pure_ (i := 18) (N := some 2) (v := ?_) (a' := ?_) #[true, true, true, true, true, true, true, true, true, true, true, true, true, true, true, true, true, true, true] rfl rfl (any_of HT_.out (by kernel_rfl)) (fun _ _ _ h => h) (Or.inl ⟨by rfl, ?_⟩) ?_ ?_
                    rotate_left
                    · intro w'
                      go_simp
                      with_reducible rfl
                    rotate_left
                    · simp only [Act.put, List.setIfInBounds_toArray, List.set_cons_zero, List.set_cons_succ, i64_w, i32_w]
                      rfl
                    refine done_ (done_of HT_.out (by kernel_rfl)) ?_
                    try go_wp2
                    go_ret
                    exact ⟨by first | rfl | (rw [show (!t235.toList.isEmpty) = (t235.toList != []) by cases t235.toList <;> rfl]; rfl) | (simp only [show (!t235.toList.isEmpty) = (t235.toList != []) by cases t235.toList <;> rfl]) | (cases hq_ : t235.toList <;> simp [hq_, errW_none, errW_some] <;> done) | (cases hq_ : t235.toList <;> simp [hq_, errW_none, errW_some] <;> rfl) | (simp [errW_none, errW_some] <;> rfl) | (simp [*, errW_none, errW_some] <;> rfl), by repeat (first | (with_reducible first | exact HB.out | apply below_alloc | apply pw_below_drewN | apply below_drew1 | refine below_set ?_ GE224.out | refine below_set ?_ GE225.out | refine below_set ?_ GE229.out) | exact HB.out)⟩
                  · rw [if_neg c132] at H
                    have c132b0 : (x7_2 == t234) = false := by simpa using c132
                    (try (have c132b1 : decide (x7_2 = t234) = false := by simpa using c132))
                    (try (have c132b2 : (x7_2 == t234) = false := by simpa using c132))
                    (try (have c132b3 : ¬ (x7_2 = t234) := by simpa using c132))
                    clear c132
                    exact absurd ((Option.some.inj H).trans HRT.out) (by decide)
                · rw [if_neg c130] at H
                  have c130b0 : (x8_2 == t228) = false := by simpa using c130
                  (try (have c130b1 : decide (x8_2 = t228) = false := by simpa using c130))
                  (try (have c130b2 : (x8_2 == t228) = false := by simpa using c130))
                  (try (have c130b3 : ¬ (x8_2 = t228) := by simpa using c130))
                  clear c130
                  exact absurd ((Option.some.inj H).trans HRT.out) (by decide)

/-- THE ONE PURE STATEMENT of laws_FnSites: yours. -/
def laws_FnSites.Pure : Prop := ∀ (l0 : List Int), l0.length ≤ maxLen → l0.length * 1 ≤ 140737488351232 → (∀ x ∈ l0, (Lit.int .u8 x).wf = true) → ∃ k, laws_FnSites.f k l0 = some true
theorem laws_FnSites.walk (P : laws_FnSites.Pure) (a0 : Option Addr) (len0 cap0 : Nat) (z0 : List Int) (w : World) (w0 : (a0 = none ∧ len0 = 0 ∧ cap0 = 0 ∧ z0 = []) ∨ ∃ x, a0 = some x ∧ len0 ≤ cap0 ∧ cap0 ≤ maxLen ∧ z0.length = cap0 ∧ (∀ i, i < z0.length → w.cell? (x.add i) = some (.int .u8 (z0.getD i 0))) ∧ ∀ n ∈ z0, (Lit.int .u8 n).wf = true) (y0 : len0 * 1 ≤ 140737488351232) :
    Calls Tryd.prog 5 #[.slice a0 len0 cap0] w fun e w' => e = .returned (.bool true) ∧ Below w.heap.size w w' := by
  obtain ⟨l0, rfl, hr0, hm0, hw0, hc0⟩ := ReadsInt.ofRowC w0
  obtain ⟨k, h⟩ := P l0 hm0 y0 hw0
  refine (laws_FnSites.calls k _ _ l0 true w (Kd.C_of_reads (d := (0 : Int)) (h1 := fun _ => rfl) hr0) hc0 h rfl).mono ?_
  rintro e w' ⟨rfl, hd⟩
  exact ⟨rfl, hd⟩

end Go.Proofs.YtilneejgliglhaaDoor.QS
