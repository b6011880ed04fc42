/- Go functions as Lean functions, each with its walk; printed by a program of this session (a scratch copy of print.py that follows nested field addresses and tells a law for the answer true). -/
import Derived.Test.YtacgichgadoddaaQIx0
import Derived.Test.YtacgichgadoddaaQIx27
import Derived.Test.YtacgichgadoddaaQIxM0
namespace Go.Proofs.Ytacgichgadoddaa.QI
open Go.RowKit Go.Proofs.YtacgichgadoddaaW.PrintWords Go.Proofs.YtacgichgadoddaaW.PrintLast Go.Proofs.YtacgichgadoddaaW.PrintMore Go.Proofs.Ytacgichgadoddaa.Short
attribute [local go_sem] max2_int min2_int max_two min_two max_three min_three max_four min_four   -- for this text's walks alone
set_option linter.unusedVariables false
set_option linter.unusedSimpArgs false

/-! ### spec_DrawAddGrant: function 43 -/
mutual
def spec_DrawAddGrant.j0 : Nat → List (S48) → Bool → List Int → Int → Int → Int → Int → Int → Int → Int → Int → Bool → Option ((List (S48)) × Int × Int × Int × Int × Int × Int × Bool)
  | 0, _, _, _, _, _, _, _, _, _, _, _, _ => none
  | k + 1, x5, x19, x355000, x355001, x355002, x370000, x370001, x370002, x370003, x370004, x370005, x370006 => if x19 = true then ((spec_l1Below.f x355000 x355001 x355002 (x5.length : Int)).bind fun bt373 => (if 0 ≤ bt373.1 then (if bt373.1 < (x5.length : Int) then (spec_DrawAddGrant.j1 k x5 x355000 bt373.2.1 bt373.2.2 ((rd_T48 x5 bt373.1).f0) ((rd_T48 x5 bt373.1).f1.f0) ((rd_T48 x5 bt373.1).f1.f1) ((rd_T48 x5 bt373.1).f2) ((rd_T48 x5 bt373.1).f3) ((rd_T48 x5 bt373.1).f4) ((rd_T48 x5 bt373.1).f5)) else (none)) else (none))) else (spec_DrawAddGrant.j1 k x5 x355000 x355001 x355002 x370000 x370001 x370002 x370003 x370004 x370005 x370006)
def spec_DrawAddGrant.j1 : Nat → List (S48) → List Int → Int → Int → Int → Int → Int → Int → Int → Int → Bool → Option ((List (S48)) × Int × Int × Int × Int × Int × Int × Bool)
  | 0, _, _, _, _, _, _, _, _, _, _, _ => none
  | k + 1, x5, x355000, x355001, x355002, x370000, x370001, x370002, x370003, x370004, x370005, x370006 => (spec_l1Once.f x355000 x355001 x355002 12).bind fun bt377 => (if bt377.1 = true then (spec_DrawAddGrant.l0 k x5 x370000 x370001 x370002 x370003 x370004 x370005 x370006) else (some (x5, x370000, x370001, x370002, x370003, x370004, x370005, x370006)))
def spec_DrawAddGrant.l0 : Nat → List (S48) → Int → Int → Int → Int → Int → Int → Bool → Option ((List (S48)) × Int × Int × Int × Int × Int × Int × Bool)
  | 0, _, _, _, _, _, _, _, _ => none
  | k + 1, x5, x370000, x370001, x370002, x370003, x370004, x370005, x370006 => if (x5.length : Int) < 16 then (if x5.length < 2513169434916 then (spec_DrawAddGrant.l0 k (x5 ++ [(⟨1, (⟨0, 0⟩ : S32), 1, 0, (x5.length : Int), false⟩ : S48)]) x370000 x370001 x370002 x370003 x370004 x370005 x370006) else (none)) else (some (x5, x370000, x370001, x370002, x370003, x370004, x370005, x370006))
end
def spec_DrawAddGrant.f (k : Nat) (l0 : List Int) : Option ((List (S48)) × Int × Int × Int × Int × Int × Int × Bool) := (spec_l1New.f k l0).bind fun bt351 => ((spec_l10List.f k bt351.1 bt351.2.1 bt351.2.2).bind fun bt355 => ((spec_l10Any.f bt351.1 bt355.2.1 bt355.2.2).bind fun bt360 => (if (bt355.1.length : Int) > 0 then ((spec_l1Once.f bt351.1 bt360.2.2.2.2.2.2.2.1 bt360.2.2.2.2.2.2.2.2 5).bind fun bt370 => (spec_DrawAddGrant.j0 k bt355.1 bt370.1 bt351.1 bt370.2.1 bt370.2.2 bt360.1 bt360.2.1 bt360.2.2.1 bt360.2.2.2.1 bt360.2.2.2.2.1 bt360.2.2.2.2.2.1 bt360.2.2.2.2.2.2.1)) else (spec_DrawAddGrant.j0 k bt355.1 false bt351.1 bt360.2.2.2.2.2.2.2.1 bt360.2.2.2.2.2.2.2.2 bt360.1 bt360.2.1 bt360.2.2.1 bt360.2.2.2.1 bt360.2.2.2.2.1 bt360.2.2.2.2.2.1 bt360.2.2.2.2.2.2.1))))
theorem spec_DrawAddGrant.mono_l : ∀ k, (∀ y0 y1 y2 y3 y4 y5 y6 y7 y8 y9 y10 y11, LeO (spec_DrawAddGrant.j0 k y0 y1 y2 y3 y4 y5 y6 y7 y8 y9 y10 y11) (spec_DrawAddGrant.j0 (k + 1) y0 y1 y2 y3 y4 y5 y6 y7 y8 y9 y10 y11)) ∧ (∀ y0 y1 y2 y3 y4 y5 y6 y7 y8 y9 y10, LeO (spec_DrawAddGrant.j1 k y0 y1 y2 y3 y4 y5 y6 y7 y8 y9 y10) (spec_DrawAddGrant.j1 (k + 1) y0 y1 y2 y3 y4 y5 y6 y7 y8 y9 y10)) ∧ (∀ y0 y1 y2 y3 y4 y5 y6 y7, LeO (spec_DrawAddGrant.l0 k y0 y1 y2 y3 y4 y5 y6 y7) (spec_DrawAddGrant.l0 (k + 1) y0 y1 y2 y3 y4 y5 y6 y7))
  | 0 => ⟨fun _ _ _ _ _ _ _ _ _ _ _ _ r h => by simp [spec_DrawAddGrant.j0] at h, fun _ _ _ _ _ _ _ _ _ _ _ r h => by simp [spec_DrawAddGrant.j1] at h, fun _ _ _ _ _ _ _ _ r h => by simp [spec_DrawAddGrant.l0] at h⟩
  | k + 1 => by
    obtain ⟨ih0, ih1, ih2⟩ := spec_DrawAddGrant.mono_l k
    refine ⟨?_, ?_, ?_⟩
    · intro y0 y1 y2 y3 y4 y5 y6 y7 y8 y9 y10 y11
      unfold spec_DrawAddGrant.j0
      repeat' first
      | (with_reducible exact ih0 _ _ _ _ _ _ _ _ _ _ _ _)
      | (with_reducible exact ih1 _ _ _ _ _ _ _ _ _ _ _)
      | (with_reducible exact ih2 _ _ _ _ _ _ _ _)
      | (with_reducible exact spec_l10List.mono _ _ _ _)
      | (with_reducible exact spec_l1New.mono _ _)
      | (with_reducible exact LeO.refl _)
      | (with_reducible exact LeO.none _)
      | (with_reducible refine LeO.ite ?_ ?_)
      | (with_reducible refine LeO.bind ?_ (fun _ => ?_))
      | exact ih0 _ _ _ _ _ _ _ _ _ _ _ _
      | exact ih1 _ _ _ _ _ _ _ _ _ _ _
      | exact ih2 _ _ _ _ _ _ _ _
      | exact spec_l10List.mono _ _ _ _
      | exact spec_l1New.mono _ _
      | exact LeO.none _
      | refine LeO.ite ?_ ?_
      | refine LeO.bind ?_ (fun _ => ?_)
    · intro y0 y1 y2 y3 y4 y5 y6 y7 y8 y9 y10
      unfold spec_DrawAddGrant.j1
      repeat' first
      | (with_reducible exact ih0 _ _ _ _ _ _ _ _ _ _ _ _)
      | (with_reducible exact ih1 _ _ _ _ _ _ _ _ _ _ _)
      | (with_reducible exact ih2 _ _ _ _ _ _ _ _)
      | (with_reducible exact spec_l10List.mono _ _ _ _)
      | (with_reducible exact spec_l1New.mono _ _)
      | (with_reducible exact LeO.refl _)
      | (with_reducible exact LeO.none _)
      | (with_reducible refine LeO.ite ?_ ?_)
      | (with_reducible refine LeO.bind ?_ (fun _ => ?_))
      | exact ih0 _ _ _ _ _ _ _ _ _ _ _ _
      | exact ih1 _ _ _ _ _ _ _ _ _ _ _
      | exact ih2 _ _ _ _ _ _ _ _
      | exact spec_l10List.mono _ _ _ _
      | exact spec_l1New.mono _ _
      | exact LeO.none _
      | refine LeO.ite ?_ ?_
      | refine LeO.bind ?_ (fun _ => ?_)
    · intro y0 y1 y2 y3 y4 y5 y6 y7
      unfold spec_DrawAddGrant.l0
      repeat' first
      | (with_reducible exact ih0 _ _ _ _ _ _ _ _ _ _ _ _)
      | (with_reducible exact ih1 _ _ _ _ _ _ _ _ _ _ _)
      | (with_reducible exact ih2 _ _ _ _ _ _ _ _)
      | (with_reducible exact spec_l10List.mono _ _ _ _)
      | (with_reducible exact spec_l1New.mono _ _)
      | (with_reducible exact LeO.refl _)
      | (with_reducible exact LeO.none _)
      | (with_reducible refine LeO.ite ?_ ?_)
      | (with_reducible refine LeO.bind ?_ (fun _ => ?_))
      | exact ih0 _ _ _ _ _ _ _ _ _ _ _ _
      | exact ih1 _ _ _ _ _ _ _ _ _ _ _
      | exact ih2 _ _ _ _ _ _ _ _
      | exact spec_l10List.mono _ _ _ _
      | exact spec_l1New.mono _ _
      | exact LeO.none _
      | refine LeO.ite ?_ ?_
      | refine LeO.bind ?_ (fun _ => ?_)
theorem spec_DrawAddGrant.mono : ∀ a0 k, LeO (spec_DrawAddGrant.f k a0) (spec_DrawAddGrant.f (k + 1) a0) := by
  intro a0 k
  obtain ⟨ih0, ih1, ih2⟩ := spec_DrawAddGrant.mono_l k
  unfold spec_DrawAddGrant.f
  repeat' first
      | (with_reducible exact ih0 _ _ _ _ _ _ _ _ _ _ _ _)
      | (with_reducible exact ih1 _ _ _ _ _ _ _ _ _ _ _)
      | (with_reducible exact ih2 _ _ _ _ _ _ _ _)
      | (with_reducible exact spec_l10List.mono _ _ _ _)
      | (with_reducible exact spec_l1New.mono _ _)
      | (with_reducible exact LeO.refl _)
      | (with_reducible exact LeO.none _)
      | (with_reducible refine LeO.ite ?_ ?_)
      | (with_reducible refine LeO.bind ?_ (fun _ => ?_))
      | exact ih0 _ _ _ _ _ _ _ _ _ _ _ _
      | exact ih1 _ _ _ _ _ _ _ _ _ _ _
      | exact ih2 _ _ _ _ _ _ _ _
      | exact spec_l10List.mono _ _ _ _
      | exact spec_l1New.mono _ _
      | exact LeO.none _
      | refine LeO.ite ?_ ?_
      | refine LeO.bind ?_ (fun _ => ?_)
set_option maxHeartbeats 8000000 in
set_option maxRecDepth 100000 in
theorem spec_DrawAddGrant.calls (k : Nat) (A0 : Option Addr) (c0 : Nat) (l0 : List Int) (r1 : List (S48)) (r2 : Int) (r3 : Int) (r4 : Int) (r5 : Int) (r6 : Int) (r7 : Int) (r8 : Bool) (w : World) (hr0 : Kd.C (Kd.int .u8) w A0 l0.length l0) (hc0 : l0.length ≤ c0) (h : spec_DrawAddGrant.f k l0 = some (r1, r2, r3, r4, r5, r6, r7, r8)) :
    Calls Try.prog 43 #[.slice A0 l0.length c0] w fun e w' => ∃ v0_ : Value, e = .returned (.tuple #[v0_, .agg #[.int .i64 r2, .int .i64 r3, .int .i64 r4, .int .i64 r5, .int .i64 r6, .int .i64 r7, .bool r8]]) ∧ Kd.R k48 48 w' w.heap.size (fun _ => True) v0_ r1 ∧ Below w.heap.size w w' := by
  have hu48 := Try.underlying48
  have HR0 := Aside0.mk hr0
  have HC0 := Aside0.mk hc0
  clear hr0 hc0
  have HB := am (Below.refl w.heap.size w)
  have H : ((spec_l1New.f k l0).bind fun bt351 => ((spec_l10List.f k bt351.1 bt351.2.1 bt351.2.2).bind fun bt355 => ((spec_l10Any.f bt351.1 bt355.2.1 bt355.2.2).bind fun bt360 => (if (bt355.1.length : Int) > 0 then ((spec_l1Once.f bt351.1 bt360.2.2.2.2.2.2.2.1 bt360.2.2.2.2.2.2.2.2 5).bind fun bt370 => (spec_DrawAddGrant.j0 k bt355.1 bt370.1 bt351.1 bt370.2.1 bt370.2.2 bt360.1 bt360.2.1 bt360.2.2.1 bt360.2.2.2.1 bt360.2.2.2.2.1 bt360.2.2.2.2.2.1 bt360.2.2.2.2.2.2.1)) else (spec_DrawAddGrant.j0 k bt355.1 false bt351.1 bt360.2.2.2.2.2.2.2.1 bt360.2.2.2.2.2.2.2.2 bt360.1 bt360.2.1 bt360.2.2.1 bt360.2.2.2.1 bt360.2.2.2.2.1 bt360.2.2.2.2.2.1 bt360.2.2.2.2.2.2.1))))) = some (r1, r2, r3, r4, r5, r6, r7, r8) := h
  clear h
  replace H := Option.bind_eq_some_iff.mp H
  obtain ⟨⟨t351, t352, t353⟩, A20, H⟩ := H
  replace H : ((spec_l10List.f k t351 t352 t353).bind fun bt355 => ((spec_l10Any.f t351 bt355.2.1 bt355.2.2).bind fun bt360 => (if (bt355.1.length : Int) > 0 then ((spec_l1Once.f t351 bt360.2.2.2.2.2.2.2.1 bt360.2.2.2.2.2.2.2.2 5).bind fun bt370 => (spec_DrawAddGrant.j0 k bt355.1 bt370.1 t351 bt370.2.1 bt370.2.2 bt360.1 bt360.2.1 bt360.2.2.1 bt360.2.2.2.1 bt360.2.2.2.2.1 bt360.2.2.2.2.2.1 bt360.2.2.2.2.2.2.1)) else (spec_DrawAddGrant.j0 k bt355.1 false t351 bt360.2.2.2.2.2.2.2.1 bt360.2.2.2.2.2.2.2.2 bt360.1 bt360.2.1 bt360.2.2.1 bt360.2.2.2.1 bt360.2.2.2.2.1 bt360.2.2.2.2.2.1 bt360.2.2.2.2.2.2.1)))) = some (r1, r2, r3, r4, r5, r6, r7, r8) := H
  have A2 := Aside0.mk A20
  clear A20
  replace H := Option.bind_eq_some_iff.mp H
  obtain ⟨⟨t355, t358, t359⟩, A30, H⟩ := H
  replace H : ((spec_l10Any.f t351 t358 t359).bind fun bt360 => (if (t355.length : Int) > 0 then ((spec_l1Once.f t351 bt360.2.2.2.2.2.2.2.1 bt360.2.2.2.2.2.2.2.2 5).bind fun bt370 => (spec_DrawAddGrant.j0 k t355 bt370.1 t351 bt370.2.1 bt370.2.2 bt360.1 bt360.2.1 bt360.2.2.1 bt360.2.2.2.1 bt360.2.2.2.2.1 bt360.2.2.2.2.2.1 bt360.2.2.2.2.2.2.1)) else (spec_DrawAddGrant.j0 k t355 false t351 bt360.2.2.2.2.2.2.2.1 bt360.2.2.2.2.2.2.2.2 bt360.1 bt360.2.1 bt360.2.2.1 bt360.2.2.2.1 bt360.2.2.2.2.1 bt360.2.2.2.2.2.1 bt360.2.2.2.2.2.2.1))) = some (r1, r2, r3, r4, r5, r6, r7, r8) := H
  have A3 := Aside0.mk A30
  clear A30
  replace H := Option.bind_eq_some_iff.mp H
  obtain ⟨⟨t360, t361, t362, t363, t364, t365, t366, t367, t368⟩, A40, H⟩ := H
  replace H : (if (t355.length : Int) > 0 then ((spec_l1Once.f t351 t367 t368 5).bind fun bt370 => (spec_DrawAddGrant.j0 k t355 bt370.1 t351 bt370.2.1 bt370.2.2 t360 t361 t362 t363 t364 t365 t366)) else (spec_DrawAddGrant.j0 k t355 false t351 t367 t368 t360 t361 t362 t363 t364 t365 t366)) = some (r1, r2, r3, r4, r5, r6, r7, r8) := H
  have A4 := Aside0.mk A40
  clear A40
  have HC5 := Aside0.mk H
  clear H
  go_enter Try.func43, Try.ntmps43
  go_upto_region 4 with (first | ((with_reducible refine gate_dst (N := 3) rfl ?_); refine box_event ?hg (N := 3) ?hd (cs := #[.int .i64 0, .int .i64 0, .int .i64 0, .int .i64 0, .int .i64 0, .int .i64 0, .bool false]) (t := 48) ?hr ?_; (case hd => rfl); (case hg => rfl); (case hr => first | (go_simp; done) | (go_simp; rfl)); intro gb350 hg w6 hbox hb; have q_ := hbx_ (by repeat (first | (with_reducible first | exact HB.out | apply below_alloc | apply pw_below_drewN | apply below_drew1) | exact HB.out)) hg hb; have n0_ := q_.1; have n1_ := am (hbox); have n2_ := q_.2; have n3_ := n2_; clear HB; have HB := n0_; have BK350 := n1_; have GW350 := n2_; have GE350 := n3_; clear n0_ n1_ n2_ n3_ hb hbox hg) | ((with_reducible refine gate_callee (f := 96) rfl ?_); refine goesL_ (some 8) rfl rfl Try.func96 (by kernel_rfl) rfl #[.slice A0 l0.length c0] rfl (by (try simp only [List.map_toArray, List.map_cons, List.map_nil]); first | done | rfl | (simp only [List.length_drop, List.length_take]; rfl)) ?_; (with_reducible refine (spec_l1New.calls k _ _ l0 t351 t352 t353 w _ ?side1 ?side2 ?side3 A2.out).mono ?_); (case side1 => repeat (first | (with_reducible first | exact HB.out | apply below_alloc | apply pw_below_drewN | apply below_drew1 | refine below_set ?_ GE350.out) | exact HB.out)); (case side2 => exact HR0.out); (case side3 => exact HC0.out); rintro e w7 ⟨g354, rfl, hi, hb, hb2⟩; refine ⟨_, rfl, ?_⟩; have n0_ := am (blk_below (g := gb350) (o := .cells #[.int .i64 0, .int .i64 0, .int .i64 0, .int .i64 0, .int .i64 0, .int .i64 0, .bool false] 48 (0, 0)) (by (with_reducible repeat (first | refine blk_drewN ?_ _ | refine blk_drew ?_ | refine blk_alloc ?_ _)); exact BK350.out) hb2); have n1_ := am (hb); have n2_ := am (hi); have n3_ := am (IsS144.ne_blk hi (blk_below (g := gb350) (o := .cells #[.int .i64 0, .int .i64 0, .int .i64 0, .int .i64 0, .int .i64 0, .int .i64 0, .bool false] 48 (0, 0)) (by (with_reducible repeat (first | refine blk_drewN ?_ _ | refine blk_drew ?_ | refine blk_alloc ?_ _)); exact BK350.out) hb2) (by decide)); have n4_ := am (Ne.symm (IsS144.ne_blk hi (blk_below (g := gb350) (o := .cells #[.int .i64 0, .int .i64 0, .int .i64 0, .int .i64 0, .int .i64 0, .int .i64 0, .bool false] 48 (0, 0)) (by (with_reducible repeat (first | refine blk_drewN ?_ _ | refine blk_drew ?_ | refine blk_alloc ?_ _)); exact BK350.out) hb2) (by decide))); clear BK350; clear HB; have BK350 := n0_; have HB := n1_; have HI354 := n2_; have NB354_350 := n3_; have NB350_354 := n4_; clear n0_ n1_ n2_ n3_ n4_; (try clear hb); (try clear hb2); (try clear hk); (try clear hi)) | ((with_reducible refine gate_callee (f := 97) rfl ?_); refine goesL_ (some 10) rfl rfl Try.func97 (by kernel_rfl) rfl #[.pointer (some ⟨g354, 0, none⟩)] rfl (by (try simp only [List.map_toArray, List.map_cons, List.map_nil]); first | done | rfl | (simp only [List.length_drop, List.length_take]; rfl)) ?_; (with_reducible refine (spec_l10List.calls k g354 t351 t352 t353 t355 t358 t359 w _ ?side1 ?side2 A3.out).mono ?_); (case side1 => repeat (first | (with_reducible first | exact HI354.out | apply IsS144.alloc | apply IsS144.drewN | apply IsS144.drew | apply IsS144.set_1 | apply IsS144.set_2 | refine IsS144.far ?_ NB354_350.out _) | exact HI354.out)); (case side2 => repeat (first | (with_reducible first | exact HB.out | apply below_alloc | apply pw_below_drewN | apply below_drew1 | refine below_set ?_ (IsS144.ge HI354.out) | refine below_set ?_ GE350.out) | exact HB.out)); rintro e w8 ⟨v356, rfl, ho0, hi, hb, hk⟩; refine ⟨_, rfl, ?_⟩; have n0_ := am (KeepBut.blk hk (g' := gb350) (o := .cells #[.int .i64 0, .int .i64 0, .int .i64 0, .int .i64 0, .int .i64 0, .int .i64 0, .bool false] 48 (0, 0)) (by (with_reducible repeat (first | refine blk_drewN ?_ _ | refine blk_drew ?_ | refine blk_alloc ?_ _)); exact BK350.out) NB350_354.out (by simp)); have n1_ := am (Kd.R_lower (Kd.R_newB ho0 (g := gb350) (o := .cells #[.int .i64 0, .int .i64 0, .int .i64 0, .int .i64 0, .int .i64 0, .int .i64 0, .bool false] 48 (0, 0)) (by (with_reducible repeat (first | refine blk_drewN ?_ _ | refine blk_drew ?_ | refine blk_alloc ?_ _)); exact BK350.out)) (below_size (by repeat (first | (with_reducible first | exact HB.out | apply below_alloc | apply pw_below_drewN | apply below_drew1 | refine below_set ?_ (IsS144.ge HI354.out) | refine below_set ?_ GE350.out) | exact HB.out)))); have n2_ := am (hb); have n3_ := am (hi); clear BK350; clear HB; clear HI354; have BK350 := n0_; have HO357 := n1_; have HB := n2_; have HI354 := n3_; clear n0_ n1_ n2_ n3_; (try clear hb); (try clear hb2); (try clear hk); (try clear hi); (try clear ho0)) | ((with_reducible refine gate_callee (f := 102) rfl ?_); refine goesL_ (some 12) rfl rfl Try.func102 (by kernel_rfl) rfl #[.pointer (some ⟨g354, 0, none⟩)] rfl (by (try simp only [List.map_toArray, List.map_cons, List.map_nil]); first | done | rfl | (simp only [List.length_drop, List.length_take]; rfl)) ?_; (with_reducible refine (spec_l10Any.calls g354 t351 t358 t359 t360 t361 t362 t363 t364 t365 t366 t367 t368 w _ ?side1 ?side2 A4.out).mono ?_); (case side1 => repeat (first | (with_reducible first | exact HI354.out | apply IsS144.alloc | apply IsS144.drewN | apply IsS144.drew | apply IsS144.set_1 | apply IsS144.set_2 | refine IsS144.far ?_ NB354_350.out _) | exact HI354.out)); (case side2 => repeat (first | (with_reducible first | exact HB.out | apply below_alloc | apply pw_below_drewN | apply below_drew1 | refine below_set ?_ (IsS144.ge HI354.out) | refine below_set ?_ GE350.out) | exact HB.out)); rintro e w9 ⟨rfl, hi, hb, hk⟩; refine ⟨_, rfl, ?_⟩; have n0_ := am (KeepBut.blk hk (g' := gb350) (o := .cells #[.int .i64 0, .int .i64 0, .int .i64 0, .int .i64 0, .int .i64 0, .int .i64 0, .bool false] 48 (0, 0)) (by (with_reducible repeat (first | refine blk_drewN ?_ _ | refine blk_drew ?_ | refine blk_alloc ?_ _)); exact BK350.out) NB350_354.out (by simp)); have n1_ := am (Kd.R_mono (Kd.R_keep (IsS144.apart (show IsS144 w _ g354 t351 t358 t359 from by repeat (first | (with_reducible first | exact HI354.out | apply IsS144.alloc | apply IsS144.drewN | apply IsS144.drew | apply IsS144.set_1 | apply IsS144.set_2 | refine IsS144.far ?_ NB354_350.out _) | exact HI354.out)) (by (with_reducible repeat (first | apply Kd.R_alloc | apply Kd.R_drewN | apply Kd.R_drew)); exact HO357.out) (by decide)) hk (fun _ h => h.2)) (fun _ h => h.1)); have n2_ := am (hb); have n3_ := am (hi); clear BK350; clear HO357; clear HB; clear HI354; have BK350 := n0_; have HO357 := n1_; have HB := n2_; have HI354 := n3_; clear n0_ n1_ n2_ n3_; (try clear hb); (try clear hb2); (try clear hk); (try clear hi)) | ((with_reducible refine gate_dst (N := 6) rfl ?_); refine box_event ?hg (N := 6) ?hd (cs := #[.int .i64 0, .int .i64 0, .int .i64 0, .int .i64 0, .int .i64 0, .int .i64 0, .bool false]) (t := 48) ?hr ?_; (case hd => rfl); (case hg => rfl); (case hr => first | (go_simp; done) | (go_simp; rfl)); intro gb369 hg w10 hbox hb; have n0_ := am (Kd.R_below (Kd.R_elderB (by (with_reducible repeat (first | apply Kd.R_alloc | apply Kd.R_drewN | apply Kd.R_drew)); exact HO357.out) gb369 (Nat.le_of_eq hg.symm)) hb); have n1_ := am (blk_below (by (with_reducible repeat (first | refine blk_drewN ?_ _ | refine blk_drew ?_ | refine blk_alloc ?_ _)); exact BK350.out) hb); have n2_ := am (IsS144.below (by repeat (first | (with_reducible first | exact HI354.out | apply IsS144.alloc | apply IsS144.drewN | apply IsS144.drew | apply IsS144.set_1 | apply IsS144.set_2 | refine IsS144.far ?_ NB354_350.out _) | exact HI354.out)) hb); have q_ := hbx_ (by repeat (first | (with_reducible first | exact HB.out | apply below_alloc | apply pw_below_drewN | apply below_drew1 | refine below_set ?_ (IsS144.ge HI354.out) | refine below_set ?_ GE350.out) | exact HB.out)) hg hb; have n3_ := q_.1; have n4_ := am (hbox); have n5_ := q_.2; have n6_ := n5_; have n7_ := am ((by rw [hg]; exact Nat.ne_of_lt (blk_lt (g := gb350) (o := .cells #[.int .i64 0, .int .i64 0, .int .i64 0, .int .i64 0, .int .i64 0, .int .i64 0, .bool false] 48 (0, 0)) (by (with_reducible repeat (first | refine blk_drewN ?_ _ | refine blk_drew ?_ | refine blk_alloc ?_ _)); exact BK350.out)) : gb350 ≠ gb369)); have n8_ := am ((by rw [hg]; exact Nat.ne_of_gt (blk_lt (g := gb350) (o := .cells #[.int .i64 0, .int .i64 0, .int .i64 0, .int .i64 0, .int .i64 0, .int .i64 0, .bool false] 48 (0, 0)) (by (with_reducible repeat (first | refine blk_drewN ?_ _ | refine blk_drew ?_ | refine blk_alloc ?_ _)); exact BK350.out)) : gb369 ≠ gb350)); have n9_ := am ((by rw [hg]; exact Nat.ne_of_lt (IsS144.lt (show IsS144 w _ g354 t351 t367 t368 from by repeat (first | (with_reducible first | exact HI354.out | apply IsS144.alloc | apply IsS144.drewN | apply IsS144.drew | apply IsS144.set_1 | apply IsS144.set_2 | refine IsS144.far ?_ NB354_350.out _) | exact HI354.out))) : g354 ≠ gb369)); have n10_ := am ((by rw [hg]; exact Nat.ne_of_gt (IsS144.lt (show IsS144 w _ g354 t351 t367 t368 from by repeat (first | (with_reducible first | exact HI354.out | apply IsS144.alloc | apply IsS144.drewN | apply IsS144.drew | apply IsS144.set_1 | apply IsS144.set_2 | refine IsS144.far ?_ NB354_350.out _) | exact HI354.out))) : gb369 ≠ g354)); clear HO357; clear BK350; clear HI354; clear HB; have HO357 := n0_; have BK350 := n1_; have HI354 := n2_; have HB := n3_; have BK369 := n4_; have GW369 := n5_; have GE369 := n6_; have NB350_369 := n7_; have NB369_350 := n8_; have NB354_369 := n9_; have NB369_354 := n10_; clear n0_ n1_ n2_ n3_ n4_ n5_ n6_ n7_ n8_ n9_ n10_; clear hb hbox hg; have hnb11 := NB369_350.out; have hnc11 := NB350_369.out; have hnb12 := NB369_354.out; have hnc12 := NB354_369.out; obtain ⟨hcz13_0, hcz13_1, hcz13_2, hcz13_3, hcz13_4, hcz13_5, hcz13_6, hfz13_0, hfz13_1, hfz13_2, hfz13_3, hfz13_4, hfz13_5, hfz13_6⟩ := blk7 BK369.out))
  (try simp only [Act.put, List.setIfInBounds_toArray, List.set_cons_zero, List.set_cons_succ])
  go_cut [19] (fun v19 wc => ∃ (kq : Nat) (x19_4 : Bool) (x355001_4 : Int) (x355002_4 : Int), v19 = .bool x19_4 ∧ Aside0 (spec_DrawAddGrant.j0 kq t355 x19_4 t351 x355001_4 x355002_4 t360 t361 t362 t363 t364 t365 t366 = some (r1, r2, r3, r4, r5, r6, r7, r8)) ∧ Aside0 (kq ≤ k) ∧ Aside0 (Kd.R k48 48 wc w.heap.size (fun k_ => k_ ≠ gb350 ∧ k_ ≠ gb369) v356 t355) ∧ Aside0 (wc.heap[gb350]? = some (.cells #[.int .i64 0, .int .i64 0, .int .i64 0, .int .i64 0, .int .i64 0, .int .i64 0, .bool false] 48 (0, 0))) ∧ Aside0 (wc.heap[gb369]? = some (.cells #[.int .i64 t360, .int .i64 t361, .int .i64 t362, .int .i64 t363, .int .i64 t364, .int .i64 t365, .bool t366] 48 (0, 0))) ∧ Aside0 (IsS144 w wc g354 t351 x355001_4 x355002_4) ∧ Aside0 (Below w.heap.size w wc))
  case first =>
    have H := HC5.out
    clear HC5
    by_cases c14 : (t355.length : Int) > 0
    · rw [if_pos c14] at H
      have c14b0 : decide (0 < (t355.length : Int)) = true := decide_eq_true c14
      have c14b1 : decide (0 < t355.length) = true := decide_eq_true (by omega)
      clear c14
      (first | rw [c14b0] | (simp only [i64_w, i32_w]; rw [c14b0]) | skip)
      replace H := Option.bind_eq_some_iff.mp H
      obtain ⟨⟨t370, t371, t372⟩, A150, H⟩ := H
      replace H : (spec_DrawAddGrant.j0 k t355 t370 t351 t371 t372 t360 t361 t362 t363 t364 t365 t366) = some (r1, r2, r3, r4, r5, r6, r7, r8) := H
      have A15 := Aside0.mk A150
      clear A150
      have H' := Aside0.mk H
      clear H
      obtain ⟨Ao16, co16, eo16⟩ := Kd.R_slice HO357.out
      subst eo16
      go_wp2_with (first | (go_at_call 100; (with_reducible refine (spec_l1Once.calls g354 t351 t367 t368 5 t370 t371 t372 w _ ?side1 ?side2 A15.out).mono ?_); (case side1 => repeat (first | (with_reducible first | exact HI354.out | apply IsS144.alloc | apply IsS144.drewN | apply IsS144.drew | apply IsS144.set_1 | apply IsS144.set_2 | refine IsS144.far ?_ NB354_350.out _ | refine IsS144.far ?_ NB354_369.out _) | exact HI354.out)); (case side2 => repeat (first | (with_reducible first | exact HB.out | apply below_alloc | apply pw_below_drewN | apply below_drew1 | refine below_set ?_ (IsS144.ge HI354.out) | refine below_set ?_ GE350.out | refine below_set ?_ GE369.out) | exact HB.out)); rintro e w17 ⟨rfl, hi, hb, hk⟩; have n0_ := am (KeepBut.blk hk (g' := gb350) (o := .cells #[.int .i64 0, .int .i64 0, .int .i64 0, .int .i64 0, .int .i64 0, .int .i64 0, .bool false] 48 (0, 0)) (by (with_reducible repeat (first | refine blk_drewN ?_ _ | refine blk_drew ?_ | refine blk_alloc ?_ _)); refine blk_far ?_ NB350_369.out _; (with_reducible repeat (first | refine blk_drewN ?_ _ | refine blk_drew ?_ | refine blk_alloc ?_ _)); refine blk_far ?_ NB350_369.out _; (with_reducible repeat (first | refine blk_drewN ?_ _ | refine blk_drew ?_ | refine blk_alloc ?_ _)); refine blk_far ?_ NB350_369.out _; (with_reducible repeat (first | refine blk_drewN ?_ _ | refine blk_drew ?_ | refine blk_alloc ?_ _)); refine blk_far ?_ NB350_369.out _; (with_reducible repeat (first | refine blk_drewN ?_ _ | refine blk_drew ?_ | refine blk_alloc ?_ _)); refine blk_far ?_ NB350_369.out _; (with_reducible repeat (first | refine blk_drewN ?_ _ | refine blk_drew ?_ | refine blk_alloc ?_ _)); refine blk_far ?_ NB350_369.out _; (with_reducible repeat (first | refine blk_drewN ?_ _ | refine blk_drew ?_ | refine blk_alloc ?_ _)); refine blk_far ?_ NB350_369.out _; (with_reducible repeat (first | refine blk_drewN ?_ _ | refine blk_drew ?_ | refine blk_alloc ?_ _)); exact BK350.out) NB350_354.out (by simp)); have n1_ := am (Kd.R_mono (Kd.R_keep (IsS144.apart (show IsS144 w _ g354 t351 t367 t368 from by repeat (first | (with_reducible first | exact HI354.out | apply IsS144.alloc | apply IsS144.drewN | apply IsS144.drew | apply IsS144.set_1 | apply IsS144.set_2 | refine IsS144.far ?_ NB354_350.out _ | refine IsS144.far ?_ NB354_369.out _) | exact HI354.out)) (by (with_reducible repeat (first | apply Kd.R_alloc | apply Kd.R_drewN | apply Kd.R_drew)); exact (Kd.R_mono (Kd.R_far (p := ⟨gb369, 6, none⟩) (Kd.R_far (p := ⟨gb369, 5, none⟩) (Kd.R_far (p := ⟨gb369, 4, none⟩) (Kd.R_far (p := ⟨gb369, 3, none⟩) (Kd.R_far (p := ⟨gb369, 2, none⟩) (Kd.R_far (p := ⟨gb369, 1, none⟩) (Kd.R_far (p := ⟨gb369, 0, none⟩) (Kd.R_mono HO357.out (fun k_ hk => (⟨hk, hk.2⟩ : _ ∧ k_ ≠ gb369))) (fun _ hk => hk.2) (.int .i64 t360)) (fun _ hk => hk.2) (.int .i64 t361)) (fun _ hk => hk.2) (.int .i64 t362)) (fun _ hk => hk.2) (.int .i64 t363)) (fun _ hk => hk.2) (.int .i64 t364)) (fun _ hk => hk.2) (.int .i64 t365)) (fun _ hk => hk.2) (.bool t366)) (fun _ h_ => h_.1))) (by decide)) hk (fun _ h => h.2)) (fun _ h => h.1)); have n2_ := am (KeepBut.blk hk (g' := gb369) (o := .cells #[.int .i64 t360, .int .i64 t361, .int .i64 t362, .int .i64 t363, .int .i64 t364, .int .i64 t365, .bool t366] 48 (0, 0)) (by (with_reducible repeat (first | refine blk_drewN ?_ _ | refine blk_drew ?_ | refine blk_alloc ?_ _)); refine blk_put (cs := #[.int .i64 t360, .int .i64 t361, .int .i64 t362, .int .i64 t363, .int .i64 t364, .int .i64 t365, .bool false]) ?_ 6 _ rfl; (with_reducible repeat (first | refine blk_drewN ?_ _ | refine blk_drew ?_ | refine blk_alloc ?_ _)); refine blk_put (cs := #[.int .i64 t360, .int .i64 t361, .int .i64 t362, .int .i64 t363, .int .i64 t364, .int .i64 0, .bool false]) ?_ 5 _ rfl; (with_reducible repeat (first | refine blk_drewN ?_ _ | refine blk_drew ?_ | refine blk_alloc ?_ _)); refine blk_put (cs := #[.int .i64 t360, .int .i64 t361, .int .i64 t362, .int .i64 t363, .int .i64 0, .int .i64 0, .bool false]) ?_ 4 _ rfl; (with_reducible repeat (first | refine blk_drewN ?_ _ | refine blk_drew ?_ | refine blk_alloc ?_ _)); refine blk_put (cs := #[.int .i64 t360, .int .i64 t361, .int .i64 t362, .int .i64 0, .int .i64 0, .int .i64 0, .bool false]) ?_ 3 _ rfl; (with_reducible repeat (first | refine blk_drewN ?_ _ | refine blk_drew ?_ | refine blk_alloc ?_ _)); refine blk_put (cs := #[.int .i64 t360, .int .i64 t361, .int .i64 0, .int .i64 0, .int .i64 0, .int .i64 0, .bool false]) ?_ 2 _ rfl; (with_reducible repeat (first | refine blk_drewN ?_ _ | refine blk_drew ?_ | refine blk_alloc ?_ _)); refine blk_put (cs := #[.int .i64 t360, .int .i64 0, .int .i64 0, .int .i64 0, .int .i64 0, .int .i64 0, .bool false]) ?_ 1 _ rfl; (with_reducible repeat (first | refine blk_drewN ?_ _ | refine blk_drew ?_ | refine blk_alloc ?_ _)); refine blk_put (cs := #[.int .i64 0, .int .i64 0, .int .i64 0, .int .i64 0, .int .i64 0, .int .i64 0, .bool false]) ?_ 0 _ rfl; (with_reducible repeat (first | refine blk_drewN ?_ _ | refine blk_drew ?_ | refine blk_alloc ?_ _)); exact BK369.out) NB369_354.out (by simp)); have n3_ := am (hb); have n4_ := am (hi); clear BK350; clear HO357; clear BK369; clear HB; clear HI354; have BK350 := n0_; have HO357 := n1_; have BK369 := n2_; have HB := n3_; have HI354 := n4_; clear n0_ n1_ n2_ n3_ n4_; (try clear hb); (try clear hb2); (try clear hk); (try clear hi)))
      go_meet
      case rel => exact ⟨_, (t370), (t371), (t372), (by first | rfl | (simp; done) | (simp [*]; done)), H', ⟨by first | omega | exact Nat.le_refl _⟩, ⟨by (with_reducible repeat (first | apply Kd.R_alloc | apply Kd.R_drewN | apply Kd.R_drew)); exact Kd.R_mono HO357.out (fun _ hk => ⟨hk.1.2, hk.2⟩)⟩, ⟨by (with_reducible repeat (first | refine blk_drewN ?_ _ | refine blk_drew ?_ | refine blk_alloc ?_ _)); exact BK350.out⟩, ⟨by (with_reducible repeat (first | refine blk_drewN ?_ _ | refine blk_drew ?_ | refine blk_alloc ?_ _)); exact BK369.out⟩, ⟨by repeat (first | (with_reducible first | exact HI354.out | apply IsS144.alloc | apply IsS144.drewN | apply IsS144.drew | apply IsS144.set_1 | apply IsS144.set_2 | refine IsS144.far ?_ NB354_350.out _ | refine IsS144.far ?_ NB354_369.out _) | exact HI354.out)⟩, ⟨by repeat (first | (with_reducible first | exact HB.out | apply below_alloc | apply pw_below_drewN | apply below_drew1 | refine below_set ?_ (IsS144.ge HI354.out) | refine below_set ?_ GE350.out | refine below_set ?_ GE369.out) | exact HB.out)⟩⟩
    · rw [if_neg c14] at H
      have c14b0 : decide (0 < (t355.length : Int)) = false := decide_eq_false c14
      have c14b1 : decide (0 < t355.length) = false := decide_eq_false (by omega)
      clear c14
      (first | rw [c14b0] | (simp only [i64_w, i32_w]; rw [c14b0]) | skip)
      have H' := Aside0.mk H
      clear H
      obtain ⟨Ao18, co18, eo18⟩ := Kd.R_slice HO357.out
      subst eo18
      go_wp2
      go_meet
      case rel => exact ⟨_, (false), (t367), (t368), (by first | rfl | (simp; done) | (simp [*]; done)), H', ⟨by first | omega | exact Nat.le_refl _⟩, ⟨by (with_reducible repeat (first | apply Kd.R_alloc | apply Kd.R_drewN | apply Kd.R_drew)); exact Kd.R_mono (Kd.R_far (p := ⟨gb369, 6, none⟩) (Kd.R_far (p := ⟨gb369, 5, none⟩) (Kd.R_far (p := ⟨gb369, 4, none⟩) (Kd.R_far (p := ⟨gb369, 3, none⟩) (Kd.R_far (p := ⟨gb369, 2, none⟩) (Kd.R_far (p := ⟨gb369, 1, none⟩) (Kd.R_far (p := ⟨gb369, 0, none⟩) (Kd.R_mono HO357.out (fun k_ hk => (⟨hk, hk.2⟩ : _ ∧ k_ ≠ gb369))) (fun _ hk => hk.2) (.int .i64 t360)) (fun _ hk => hk.2) (.int .i64 t361)) (fun _ hk => hk.2) (.int .i64 t362)) (fun _ hk => hk.2) (.int .i64 t363)) (fun _ hk => hk.2) (.int .i64 t364)) (fun _ hk => hk.2) (.int .i64 t365)) (fun _ hk => hk.2) (.bool t366)) (fun _ hk => ⟨hk.1.1.2, hk.1.2⟩)⟩, ⟨by (with_reducible repeat (first | refine blk_drewN ?_ _ | refine blk_drew ?_ | refine blk_alloc ?_ _)); refine blk_far ?_ NB350_369.out _; (with_reducible repeat (first | refine blk_drewN ?_ _ | refine blk_drew ?_ | refine blk_alloc ?_ _)); refine blk_far ?_ NB350_369.out _; (with_reducible repeat (first | refine blk_drewN ?_ _ | refine blk_drew ?_ | refine blk_alloc ?_ _)); refine blk_far ?_ NB350_369.out _; (with_reducible repeat (first | refine blk_drewN ?_ _ | refine blk_drew ?_ | refine blk_alloc ?_ _)); refine blk_far ?_ NB350_369.out _; (with_reducible repeat (first | refine blk_drewN ?_ _ | refine blk_drew ?_ | refine blk_alloc ?_ _)); refine blk_far ?_ NB350_369.out _; (with_reducible repeat (first | refine blk_drewN ?_ _ | refine blk_drew ?_ | refine blk_alloc ?_ _)); refine blk_far ?_ NB350_369.out _; (with_reducible repeat (first | refine blk_drewN ?_ _ | refine blk_drew ?_ | refine blk_alloc ?_ _)); refine blk_far ?_ NB350_369.out _; (with_reducible repeat (first | refine blk_drewN ?_ _ | refine blk_drew ?_ | refine blk_alloc ?_ _)); exact BK350.out⟩, ⟨by (with_reducible repeat (first | refine blk_drewN ?_ _ | refine blk_drew ?_ | refine blk_alloc ?_ _)); refine blk_put (cs := #[.int .i64 t360, .int .i64 t361, .int .i64 t362, .int .i64 t363, .int .i64 t364, .int .i64 t365, .bool false]) ?_ 6 _ rfl; (with_reducible repeat (first | refine blk_drewN ?_ _ | refine blk_drew ?_ | refine blk_alloc ?_ _)); refine blk_put (cs := #[.int .i64 t360, .int .i64 t361, .int .i64 t362, .int .i64 t363, .int .i64 t364, .int .i64 0, .bool false]) ?_ 5 _ rfl; (with_reducible repeat (first | refine blk_drewN ?_ _ | refine blk_drew ?_ | refine blk_alloc ?_ _)); refine blk_put (cs := #[.int .i64 t360, .int .i64 t361, .int .i64 t362, .int .i64 t363, .int .i64 0, .int .i64 0, .bool false]) ?_ 4 _ rfl; (with_reducible repeat (first | refine blk_drewN ?_ _ | refine blk_drew ?_ | refine blk_alloc ?_ _)); refine blk_put (cs := #[.int .i64 t360, .int .i64 t361, .int .i64 t362, .int .i64 0, .int .i64 0, .int .i64 0, .bool false]) ?_ 3 _ rfl; (with_reducible repeat (first | refine blk_drewN ?_ _ | refine blk_drew ?_ | refine blk_alloc ?_ _)); refine blk_put (cs := #[.int .i64 t360, .int .i64 t361, .int .i64 0, .int .i64 0, .int .i64 0, .int .i64 0, .bool false]) ?_ 2 _ rfl; (with_reducible repeat (first | refine blk_drewN ?_ _ | refine blk_drew ?_ | refine blk_alloc ?_ _)); refine blk_put (cs := #[.int .i64 t360, .int .i64 0, .int .i64 0, .int .i64 0, .int .i64 0, .int .i64 0, .bool false]) ?_ 1 _ rfl; (with_reducible repeat (first | refine blk_drewN ?_ _ | refine blk_drew ?_ | refine blk_alloc ?_ _)); refine blk_put (cs := #[.int .i64 0, .int .i64 0, .int .i64 0, .int .i64 0, .int .i64 0, .int .i64 0, .bool false]) ?_ 0 _ rfl; (with_reducible repeat (first | refine blk_drewN ?_ _ | refine blk_drew ?_ | refine blk_alloc ?_ _)); exact BK369.out⟩, ⟨by repeat (first | (with_reducible first | exact HI354.out | apply IsS144.alloc | apply IsS144.drewN | apply IsS144.drew | apply IsS144.set_1 | apply IsS144.set_2 | refine IsS144.far ?_ NB354_350.out _ | refine IsS144.far ?_ NB354_369.out _) | exact HI354.out)⟩, ⟨by repeat (first | (with_reducible first | exact HB.out | apply below_alloc | apply pw_below_drewN | apply below_drew1 | refine below_set ?_ (IsS144.ge HI354.out) | refine below_set ?_ GE350.out | refine below_set ?_ GE369.out) | exact HB.out)⟩⟩
  case rest =>
    clear HC5
    try clear c1
    try clear p2
    try clear c4
    try clear c9
    try clear c10
    try clear c11
    try clear c12
    try clear c14
    try clear c14b0
    try clear c14b1
    try clear hcz13_0
    try clear hcz13_1
    try clear hcz13_2
    try clear hcz13_3
    try clear hcz13_4
    try clear hcz13_5
    try clear hcz13_6
    try clear hfz13_0
    try clear hfz13_1
    try clear hfz13_2
    try clear hfz13_3
    try clear hfz13_4
    try clear hfz13_5
    try clear hfz13_6
    obtain ⟨kq, x19_4, x355001_4, x355002_4, rfl, HA, HJ4, HO_5, BK350, BK369, HI354, HB⟩ := hcut
    cases kq with
    | zero => exact absurd HA.out (by simp [spec_DrawAddGrant.j0])
    | succ kj4 =>
      have H := HA.out
      clear HA
      simp only [spec_DrawAddGrant.j0] at H
      have HC19 := Aside0.mk H
      clear H
      go_upto_if 19 with (fail)
      go_cut [] (fun wc => ∃ (kq : Nat) (x355001_18 : Int) (x355002_18 : Int) (x370000_18 : Int) (x370001_18 : Int) (x370002_18 : Int) (x370003_18 : Int) (x370004_18 : Int) (x370005_18 : Int) (x370006_18 : Bool), Aside0 (spec_DrawAddGrant.j1 kq t355 t351 x355001_18 x355002_18 x370000_18 x370001_18 x370002_18 x370003_18 x370004_18 x370005_18 x370006_18 = some (r1, r2, r3, r4, r5, r6, r7, r8)) ∧ Aside0 (kq ≤ kj4) ∧ Aside0 (Kd.R k48 48 wc w.heap.size (fun k_ => k_ ≠ gb350 ∧ k_ ≠ gb369) v356 t355) ∧ Aside0 (wc.heap[gb350]? = some (.cells #[.int .i64 0, .int .i64 0, .int .i64 0, .int .i64 0, .int .i64 0, .int .i64 0, .bool false] 48 (0, 0))) ∧ Aside0 (wc.heap[gb369]? = some (.cells #[.int .i64 x370000_18, .int .i64 x370001_18, .int .i64 x370002_18, .int .i64 x370003_18, .int .i64 x370004_18, .int .i64 x370005_18, .bool x370006_18] 48 (0, 0))) ∧ Aside0 (IsS144 w wc g354 t351 x355001_18 x355002_18) ∧ Aside0 (Below w.heap.size w wc))
      case first =>
        have H := HC19.out
        clear HC19
        by_cases c20 : x19_4 = true
        · subst c20
          have H1 : ((spec_l1Below.f t351 x355001_4 x355002_4 (t355.length : Int)).bind fun bt373 => (if 0 ≤ bt373.1 then (if bt373.1 < (t355.length : Int) then (spec_DrawAddGrant.j1 kj4 t355 t351 bt373.2.1 bt373.2.2 ((rd_T48 t355 bt373.1).f0) ((rd_T48 t355 bt373.1).f1.f0) ((rd_T48 t355 bt373.1).f1.f1) ((rd_T48 t355 bt373.1).f2) ((rd_T48 t355 bt373.1).f3) ((rd_T48 t355 bt373.1).f4) ((rd_T48 t355 bt373.1).f5)) else (none)) else (none))) = some (r1, r2, r3, r4, r5, r6, r7, r8) := by rw [if_pos rfl] at H; exact H
          clear H
          have H := H1
          clear H1
          replace H := Option.bind_eq_some_iff.mp H
          obtain ⟨⟨t373, t374, t375⟩, A210, H⟩ := H
          replace H : (if 0 ≤ t373 then (if t373 < (t355.length : Int) then (spec_DrawAddGrant.j1 kj4 t355 t351 t374 t375 ((rd_T48 t355 t373).f0) ((rd_T48 t355 t373).f1.f0) ((rd_T48 t355 t373).f1.f1) ((rd_T48 t355 t373).f2) ((rd_T48 t355 t373).f3) ((rd_T48 t355 t373).f4) ((rd_T48 t355 t373).f5)) else (none)) else (none)) = some (r1, r2, r3, r4, r5, r6, r7, r8) := H
          have A21 := Aside0.mk A210
          clear A210
          by_cases c22 : 0 ≤ t373
          · rw [if_pos c22] at H
            have c22b0 : decide (0 ≤ t373) = true := decide_eq_true c22
            clear c22
            (first | rw [c22b0] | (simp only [i64_w, i32_w]; rw [c22b0]) | skip)
            by_cases c23 : t373 < (t355.length : Int)
            · rw [if_pos c23] at H
              have c23b0 : decide (t373 < (t355.length : Int)) = true := decide_eq_true c23
              clear c23
              have H' := Aside0.mk H
              clear H
              obtain ⟨Ao24, co24, eo24⟩ := Kd.R_slice HO_5.out
              subst eo24
              go_wp2_with (first | ((with_reducible refine gate_callee (f := 98) rfl ?_); refine goesL_ (some 24) rfl rfl Try.func98 (by kernel_rfl) rfl #[.pointer (some ⟨g354, 0, none⟩), .int .i64 (t355.length : Int)] rfl (by (try simp only [List.map_toArray, List.map_cons, List.map_nil]); first | done | rfl | (simp only [List.length_drop, List.length_take]; rfl)) ?_; (with_reducible refine (spec_l1Below.calls g354 t351 x355001_4 x355002_4 (t355.length : Int) t373 t374 t375 w _ ?side1 ?side2 A21.out).mono ?_); (case side1 => repeat (first | (with_reducible first | exact HI354.out | apply IsS144.alloc | apply IsS144.drewN | apply IsS144.drew | apply IsS144.set_1 | apply IsS144.set_2 | refine IsS144.far ?_ NB354_350.out _ | refine IsS144.far ?_ NB354_369.out _) | exact HI354.out)); (case side2 => repeat (first | (with_reducible first | exact HB.out | apply below_alloc | apply pw_below_drewN | apply below_drew1 | refine below_set ?_ (IsS144.ge HI354.out) | refine below_set ?_ GE350.out | refine below_set ?_ GE369.out) | exact HB.out)); rintro e w25 ⟨rfl, hi, hb, hk⟩; refine ⟨_, rfl, ?_⟩; have n0_ := am (Kd.R_mono (Kd.R_keep (IsS144.apart (show IsS144 w _ g354 t351 x355001_4 x355002_4 from by repeat (first | (with_reducible first | exact HI354.out | apply IsS144.alloc | apply IsS144.drewN | apply IsS144.drew | apply IsS144.set_1 | apply IsS144.set_2 | refine IsS144.far ?_ NB354_350.out _ | refine IsS144.far ?_ NB354_369.out _) | exact HI354.out)) (by (with_reducible repeat (first | apply Kd.R_alloc | apply Kd.R_drewN | apply Kd.R_drew)); exact HO_5.out) (by decide)) hk (fun _ h => h.2)) (fun _ h => h.1)); have n1_ := am (KeepBut.blk hk (g' := gb350) (o := .cells #[.int .i64 0, .int .i64 0, .int .i64 0, .int .i64 0, .int .i64 0, .int .i64 0, .bool false] 48 (0, 0)) (by (with_reducible repeat (first | refine blk_drewN ?_ _ | refine blk_drew ?_ | refine blk_alloc ?_ _)); exact BK350.out) NB350_354.out (by simp)); have n2_ := am (KeepBut.blk hk (g' := gb369) (o := .cells #[.int .i64 t360, .int .i64 t361, .int .i64 t362, .int .i64 t363, .int .i64 t364, .int .i64 t365, .bool t366] 48 (0, 0)) (by (with_reducible repeat (first | refine blk_drewN ?_ _ | refine blk_drew ?_ | refine blk_alloc ?_ _)); exact BK369.out) NB369_354.out (by simp)); have n3_ := am (hb); have n4_ := am (hi); clear HO_5; clear BK350; clear BK369; clear HB; clear HI354; have HO_5 := n0_; have BK350 := n1_; have BK369 := n2_; have HB := n3_; have HI354 := n4_; clear n0_ n1_ n2_ n3_ n4_; (try clear hb); (try clear hb2); (try clear hk); (try clear hi); have p376 : 0 ≤ (t373 : Int) := of_decide_eq_true (by first | (with_reducible assumption) | assumption); have q376 : t373 < (t355.length : Int) := of_decide_eq_true (by first | (with_reducible assumption) | assumption); obtain ⟨ad376, e376, hx376_0, hx376_1, hx376_2, hx376_3, hx376_4, hx376_5, hx376_6⟩ := at_T48 (Kd.R_reads' HO_5.out).2.2 t373 p376 q376; cases e376; replace p376 := eq_true p376; replace q376 := eq_true q376; have hnb26 := NB369_350.out; have hnc26 := NB350_369.out; have hnb27 := NB369_354.out; have hnc27 := NB354_369.out; obtain ⟨hcz28_0, hcz28_1, hcz28_2, hcz28_3, hcz28_4, hcz28_5, hcz28_6, hfz28_0, hfz28_1, hfz28_2, hfz28_3, hfz28_4, hfz28_5, hfz28_6⟩ := blk7 BK369.out))
              go_meet
              case rel => exact ⟨_, (t374), (t375), ((rd_T48 t355 t373).f0), ((rd_T48 t355 t373).f1.f0), ((rd_T48 t355 t373).f1.f1), ((rd_T48 t355 t373).f2), ((rd_T48 t355 t373).f3), ((rd_T48 t355 t373).f4), ((rd_T48 t355 t373).f5), H', ⟨by have := HJ4.out; first | omega | exact Nat.le_refl _⟩, ⟨by (with_reducible repeat (first | apply Kd.R_alloc | apply Kd.R_drewN | apply Kd.R_drew)); exact Kd.R_mono (Kd.R_far (p := ⟨gb369, 6, none⟩) (Kd.R_far (p := ⟨gb369, 5, none⟩) (Kd.R_far (p := ⟨gb369, 4, none⟩) (Kd.R_far (p := ⟨gb369, 3, none⟩) (Kd.R_far (p := ⟨gb369, 2, none⟩) (Kd.R_far (p := ⟨gb369, 1, none⟩) (Kd.R_far (p := ⟨gb369, 0, none⟩) (Kd.R_mono HO_5.out (fun k_ hk => (⟨hk, hk.2⟩ : _ ∧ k_ ≠ gb369))) (fun _ hk => hk.2) (.int .i64 ((rd_T48 t355 t373).f0))) (fun _ hk => hk.2) (.int .i64 ((rd_T48 t355 t373).f1.f0))) (fun _ hk => hk.2) (.int .i64 ((rd_T48 t355 t373).f1.f1))) (fun _ hk => hk.2) (.int .i64 ((rd_T48 t355 t373).f2))) (fun _ hk => hk.2) (.int .i64 ((rd_T48 t355 t373).f3))) (fun _ hk => hk.2) (.int .i64 ((rd_T48 t355 t373).f4))) (fun _ hk => hk.2) (.bool ((rd_T48 t355 t373).f5))) (fun _ hk => ⟨hk.1.1, hk.1.2⟩)⟩, ⟨by (with_reducible repeat (first | refine blk_drewN ?_ _ | refine blk_drew ?_ | refine blk_alloc ?_ _)); refine blk_far ?_ NB350_369.out _; (with_reducible repeat (first | refine blk_drewN ?_ _ | refine blk_drew ?_ | refine blk_alloc ?_ _)); refine blk_far ?_ NB350_369.out _; (with_reducible repeat (first | refine blk_drewN ?_ _ | refine blk_drew ?_ | refine blk_alloc ?_ _)); refine blk_far ?_ NB350_369.out _; (with_reducible repeat (first | refine blk_drewN ?_ _ | refine blk_drew ?_ | refine blk_alloc ?_ _)); refine blk_far ?_ NB350_369.out _; (with_reducible repeat (first | refine blk_drewN ?_ _ | refine blk_drew ?_ | refine blk_alloc ?_ _)); refine blk_far ?_ NB350_369.out _; (with_reducible repeat (first | refine blk_drewN ?_ _ | refine blk_drew ?_ | refine blk_alloc ?_ _)); refine blk_far ?_ NB350_369.out _; (with_reducible repeat (first | refine blk_drewN ?_ _ | refine blk_drew ?_ | refine blk_alloc ?_ _)); refine blk_far ?_ NB350_369.out _; (with_reducible repeat (first | refine blk_drewN ?_ _ | refine blk_drew ?_ | refine blk_alloc ?_ _)); exact BK350.out⟩, ⟨by (with_reducible repeat (first | refine blk_drewN ?_ _ | refine blk_drew ?_ | refine blk_alloc ?_ _)); refine blk_put (cs := #[.int .i64 ((rd_T48 t355 t373).f0), .int .i64 ((rd_T48 t355 t373).f1.f0), .int .i64 ((rd_T48 t355 t373).f1.f1), .int .i64 ((rd_T48 t355 t373).f2), .int .i64 ((rd_T48 t355 t373).f3), .int .i64 ((rd_T48 t355 t373).f4), .bool t366]) ?_ 6 _ rfl; (with_reducible repeat (first | refine blk_drewN ?_ _ | refine blk_drew ?_ | refine blk_alloc ?_ _)); refine blk_put (cs := #[.int .i64 ((rd_T48 t355 t373).f0), .int .i64 ((rd_T48 t355 t373).f1.f0), .int .i64 ((rd_T48 t355 t373).f1.f1), .int .i64 ((rd_T48 t355 t373).f2), .int .i64 ((rd_T48 t355 t373).f3), .int .i64 t365, .bool t366]) ?_ 5 _ rfl; (with_reducible repeat (first | refine blk_drewN ?_ _ | refine blk_drew ?_ | refine blk_alloc ?_ _)); refine blk_put (cs := #[.int .i64 ((rd_T48 t355 t373).f0), .int .i64 ((rd_T48 t355 t373).f1.f0), .int .i64 ((rd_T48 t355 t373).f1.f1), .int .i64 ((rd_T48 t355 t373).f2), .int .i64 t364, .int .i64 t365, .bool t366]) ?_ 4 _ rfl; (with_reducible repeat (first | refine blk_drewN ?_ _ | refine blk_drew ?_ | refine blk_alloc ?_ _)); refine blk_put (cs := #[.int .i64 ((rd_T48 t355 t373).f0), .int .i64 ((rd_T48 t355 t373).f1.f0), .int .i64 ((rd_T48 t355 t373).f1.f1), .int .i64 t363, .int .i64 t364, .int .i64 t365, .bool t366]) ?_ 3 _ rfl; (with_reducible repeat (first | refine blk_drewN ?_ _ | refine blk_drew ?_ | refine blk_alloc ?_ _)); refine blk_put (cs := #[.int .i64 ((rd_T48 t355 t373).f0), .int .i64 ((rd_T48 t355 t373).f1.f0), .int .i64 t362, .int .i64 t363, .int .i64 t364, .int .i64 t365, .bool t366]) ?_ 2 _ rfl; (with_reducible repeat (first | refine blk_drewN ?_ _ | refine blk_drew ?_ | refine blk_alloc ?_ _)); refine blk_put (cs := #[.int .i64 ((rd_T48 t355 t373).f0), .int .i64 t361, .int .i64 t362, .int .i64 t363, .int .i64 t364, .int .i64 t365, .bool t366]) ?_ 1 _ rfl; (with_reducible repeat (first | refine blk_drewN ?_ _ | refine blk_drew ?_ | refine blk_alloc ?_ _)); refine blk_put (cs := #[.int .i64 t360, .int .i64 t361, .int .i64 t362, .int .i64 t363, .int .i64 t364, .int .i64 t365, .bool t366]) ?_ 0 _ rfl; (with_reducible repeat (first | refine blk_drewN ?_ _ | refine blk_drew ?_ | refine blk_alloc ?_ _)); exact BK369.out⟩, ⟨by repeat (first | (with_reducible first | exact HI354.out | apply IsS144.alloc | apply IsS144.drewN | apply IsS144.drew | apply IsS144.set_1 | apply IsS144.set_2 | refine IsS144.far ?_ NB354_350.out _ | refine IsS144.far ?_ NB354_369.out _) | exact HI354.out)⟩, ⟨by repeat (first | (with_reducible first | exact HB.out | apply below_alloc | apply pw_below_drewN | apply below_drew1 | refine below_set ?_ (IsS144.ge HI354.out) | refine below_set ?_ GE350.out | refine below_set ?_ GE369.out) | exact HB.out)⟩⟩
            · rw [if_neg c23] at H
              exact absurd H (by simp)
          · rw [if_neg c22] at H
            exact absurd H (by simp)
        · replace c20 := Bool.eq_false_iff.mpr c20
          subst c20
          have H1 : (spec_DrawAddGrant.j1 kj4 t355 t351 x355001_4 x355002_4 t360 t361 t362 t363 t364 t365 t366) = some (r1, r2, r3, r4, r5, r6, r7, r8) := by rw [if_neg (show ¬ (false = true) by decide)] at H; exact H
          clear H
          have H := H1
          clear H1
          have H' := Aside0.mk H
          clear H
          go_wp2
          go_meet
          case rel => exact ⟨_, (x355001_4), (x355002_4), (t360), (t361), (t362), (t363), (t364), (t365), (t366), H', ⟨by have := HJ4.out; first | omega | exact Nat.le_refl _⟩, ⟨by (with_reducible repeat (first | apply Kd.R_alloc | apply Kd.R_drewN | apply Kd.R_drew)); exact HO_5.out⟩, ⟨by (with_reducible repeat (first | refine blk_drewN ?_ _ | refine blk_drew ?_ | refine blk_alloc ?_ _)); exact BK350.out⟩, ⟨by (with_reducible repeat (first | refine blk_drewN ?_ _ | refine blk_drew ?_ | refine blk_alloc ?_ _)); exact BK369.out⟩, ⟨by repeat (first | (with_reducible first | exact HI354.out | apply IsS144.alloc | apply IsS144.drewN | apply IsS144.drew | apply IsS144.set_1 | apply IsS144.set_2 | refine IsS144.far ?_ NB354_350.out _ | refine IsS144.far ?_ NB354_369.out _) | exact HI354.out)⟩, ⟨by repeat (first | (with_reducible first | exact HB.out | apply below_alloc | apply pw_below_drewN | apply below_drew1 | refine below_set ?_ (IsS144.ge HI354.out) | refine below_set ?_ GE350.out | refine below_set ?_ GE369.out) | exact HB.out)⟩⟩
      case rest =>
        clear HC19
        try clear c1
        try clear c2
        try clear p2
        try clear p3
        try clear q3
        try clear hx3
        try clear c4
        try clear c9
        try clear c10
        try clear c11
        try clear c12
        try clear c14
        try clear c14b0
        try clear c14b1
        try clear c20
        try clear c22
        try clear c22b0
        try clear c23
        try clear c23b0
        try clear c26
        try clear c27
        try clear hcz13_0
        try clear hcz13_1
        try clear hcz13_2
        try clear hcz13_3
        try clear hcz13_4
        try clear hcz13_5
        try clear hcz13_6
        try clear hcz28_0
        try clear hcz28_1
        try clear hcz28_2
        try clear hcz28_3
        try clear hcz28_4
        try clear hcz28_5
        try clear hcz28_6
        try clear hfz13_0
        try clear hfz13_1
        try clear hfz13_2
        try clear hfz13_3
        try clear hfz13_4
        try clear hfz13_5
        try clear hfz13_6
        try clear hfz28_0
        try clear hfz28_1
        try clear hfz28_2
        try clear hfz28_3
        try clear hfz28_4
        try clear hfz28_5
        try clear hfz28_6
        try clear hx376_0
        try clear hx376_1
        try clear hx376_2
        try clear hx376_3
        try clear hx376_4
        try clear hx376_5
        try clear hx376_6
        try clear p2
        try clear p376
        try clear q376
        obtain ⟨kq, x355001_18, x355002_18, x370000_18, x370001_18, x370002_18, x370003_18, x370004_18, x370005_18, x370006_18, HA, HJ18, HO_5, BK350, BK369, HI354, HB⟩ := hcut
        cases kq with
        | zero => exact absurd HA.out (by simp [spec_DrawAddGrant.j1])
        | succ kj18 =>
          have H := HA.out
          clear HA
          simp only [spec_DrawAddGrant.j1] at H
          replace H := Option.bind_eq_some_iff.mp H
          obtain ⟨⟨t377, t378, t379⟩, A290, H⟩ := H
          replace H : (if t377 = true then (spec_DrawAddGrant.l0 kj18 t355 x370000_18 x370001_18 x370002_18 x370003_18 x370004_18 x370005_18 x370006_18) else (some (t355, x370000_18, x370001_18, x370002_18, x370003_18, x370004_18, x370005_18, x370006_18))) = some (r1, r2, r3, r4, r5, r6, r7, r8) := H
          have A29 := Aside0.mk A290
          clear A290
          by_cases c30 : t377 = true
          · subst c30
            have H1 : (spec_DrawAddGrant.l0 kj18 t355 x370000_18 x370001_18 x370002_18 x370003_18 x370004_18 x370005_18 x370006_18) = some (r1, r2, r3, r4, r5, r6, r7, r8) := by rw [if_pos rfl] at H; exact H
            clear H
            have H := H1
            clear H1
            have H' := Aside0.mk H
            clear H
            go_wp2_with (first | ((with_reducible refine gate_callee (f := 100) rfl ?_); refine goesL_ (some 28) rfl rfl Try.func100 (by kernel_rfl) rfl #[.pointer (some ⟨g354, 0, none⟩), .int .i64 12] rfl (by (try simp only [List.map_toArray, List.map_cons, List.map_nil]); first | done | rfl | (simp only [List.length_drop, List.length_take]; rfl)) ?_; (with_reducible refine (spec_l1Once.calls g354 t351 x355001_18 x355002_18 12 true t378 t379 w _ ?side1 ?side2 A29.out).mono ?_); (case side1 => repeat (first | (with_reducible first | exact HI354.out | apply IsS144.alloc | apply IsS144.drewN | apply IsS144.drew | apply IsS144.set_1 | apply IsS144.set_2 | refine IsS144.far ?_ NB354_350.out _ | refine IsS144.far ?_ NB354_369.out _) | exact HI354.out)); (case side2 => repeat (first | (with_reducible first | exact HB.out | apply below_alloc | apply pw_below_drewN | apply below_drew1 | refine below_set ?_ (IsS144.ge HI354.out) | refine below_set ?_ GE350.out | refine below_set ?_ GE369.out) | exact HB.out)); rintro e w31 ⟨rfl, hi, hb, hk⟩; refine ⟨_, rfl, ?_⟩; have n0_ := am (Kd.R_mono (Kd.R_keep (IsS144.apart (show IsS144 w _ g354 t351 x355001_18 x355002_18 from by repeat (first | (with_reducible first | exact HI354.out | apply IsS144.alloc | apply IsS144.drewN | apply IsS144.drew | apply IsS144.set_1 | apply IsS144.set_2 | refine IsS144.far ?_ NB354_350.out _ | refine IsS144.far ?_ NB354_369.out _) | exact HI354.out)) (by (with_reducible repeat (first | apply Kd.R_alloc | apply Kd.R_drewN | apply Kd.R_drew)); exact HO_5.out) (by decide)) hk (fun _ h => h.2)) (fun _ h => h.1)); have n1_ := am (KeepBut.blk hk (g' := gb350) (o := .cells #[.int .i64 0, .int .i64 0, .int .i64 0, .int .i64 0, .int .i64 0, .int .i64 0, .bool false] 48 (0, 0)) (by (with_reducible repeat (first | refine blk_drewN ?_ _ | refine blk_drew ?_ | refine blk_alloc ?_ _)); exact BK350.out) NB350_354.out (by simp)); have n2_ := am (KeepBut.blk hk (g' := gb369) (o := .cells #[.int .i64 x370000_18, .int .i64 x370001_18, .int .i64 x370002_18, .int .i64 x370003_18, .int .i64 x370004_18, .int .i64 x370005_18, .bool x370006_18] 48 (0, 0)) (by (with_reducible repeat (first | refine blk_drewN ?_ _ | refine blk_drew ?_ | refine blk_alloc ?_ _)); exact BK369.out) NB369_354.out (by simp)); have n3_ := am (hb); have n4_ := am (hi); clear HO_5; clear BK350; clear BK369; clear HB; clear HI354; have HO_5 := n0_; have BK350 := n1_; have BK369 := n2_; have HB := n3_; have HI354 := n4_; clear n0_ n1_ n2_ n3_ n4_; (try clear hb); (try clear hb2); (try clear hk); (try clear hi)))
            try simp only [Act.put, List.setIfInBounds_toArray, List.set_cons_zero, List.set_cons_succ]
            go_loopg [5] kj18 (fun kq v5 w' => ∃ (x5_3 : List (S48)), Aside0 (spec_DrawAddGrant.l0 kq x5_3 x370000_18 x370001_18 x370002_18 x370003_18 x370004_18 x370005_18 x370006_18 = some (r1, r2, r3, r4, r5, r6, r7, r8)) ∧ Aside0 (kq ≤ kj18) ∧ Aside0 (Kd.R k48 48 w' w.heap.size (fun k_ => k_ ≠ gb350 ∧ k_ ≠ gb369) v5 x5_3) ∧ Aside0 (w'.heap[gb350]? = some (.cells #[.int .i64 0, .int .i64 0, .int .i64 0, .int .i64 0, .int .i64 0, .int .i64 0, .bool false] 48 (0, 0))) ∧ Aside0 (w'.heap[gb369]? = some (.cells #[.int .i64 x370000_18, .int .i64 x370001_18, .int .i64 x370002_18, .int .i64 x370003_18, .int .i64 x370004_18, .int .i64 x370005_18, .bool x370006_18] 48 (0, 0))) ∧ Aside0 (Below w.heap.size w w'))
            case atStart => exact ⟨(t355), H', ⟨Nat.le_refl _⟩, ⟨by (with_reducible repeat (first | apply Kd.R_alloc | apply Kd.R_drewN | apply Kd.R_drew)); exact HO_5.out⟩, ⟨by (with_reducible repeat (first | refine blk_drewN ?_ _ | refine blk_drew ?_ | refine blk_alloc ?_ _)); exact BK350.out⟩, ⟨by (with_reducible repeat (first | refine blk_drewN ?_ _ | refine blk_drew ?_ | refine blk_alloc ?_ _)); exact BK369.out⟩, ⟨by repeat (first | (with_reducible first | exact HB.out | apply below_alloc | apply pw_below_drewN | apply below_drew1 | refine below_set ?_ (IsS144.ge HI354.out) | refine below_set ?_ GE350.out | refine below_set ?_ GE369.out) | exact HB.out)⟩⟩
            case round =>
              clear H'
              try clear c1
              try clear c2
              try clear p2
              try clear c3
              try clear p3
              try clear q3
              try clear hx3
              try clear c4
              try clear c9
              try clear c10
              try clear c11
              try clear c12
              try clear c14
              try clear c14b0
              try clear c14b1
              try clear c20
              try clear c22
              try clear c22b0
              try clear c23
              try clear c23b0
              try clear c26
              try clear c27
              try clear c30
              try clear hcz13_0
              try clear hcz13_1
              try clear hcz13_2
              try clear hcz13_3
              try clear hcz13_4
              try clear hcz13_5
              try clear hcz13_6
              try clear hcz28_0
              try clear hcz28_1
              try clear hcz28_2
              try clear hcz28_3
              try clear hcz28_4
              try clear hcz28_5
              try clear hcz28_6
              try clear hfz13_0
              try clear hfz13_1
              try clear hfz13_2
              try clear hfz13_3
              try clear hfz13_4
              try clear hfz13_5
              try clear hfz13_6
              try clear hfz28_0
              try clear hfz28_1
              try clear hfz28_2
              try clear hfz28_3
              try clear hfz28_4
              try clear hfz28_5
              try clear hfz28_6
              try clear hx376_0
              try clear hx376_1
              try clear hx376_2
              try clear hx376_3
              try clear hx376_4
              try clear hx376_5
              try clear hx376_6
              try clear p2
              try clear p3
              try clear p376
              try clear q3
              try clear q376
              obtain ⟨x5_3, HA, HK3, HO_5, BK350, BK369, HB⟩ := hrel
              cases gk with
              | zero => exact absurd HA.out (by simp [spec_DrawAddGrant.l0])
              | succ k3 =>
                have H := HA.out
                clear HA
                simp only [spec_DrawAddGrant.l0] at H
                by_cases c32 : (x5_3.length : Int) < 16
                · rw [if_pos c32] at H
                  have c32b0 : decide ((x5_3.length : Int) < 16) = true := decide_eq_true c32
                  have c32b1 : decide (x5_3.length < 16) = true := decide_eq_true (by omega)
                  clear c32
                  by_cases c33 : x5_3.length < 2513169434916
                  · rw [if_pos c33] at H
                    have LMc33 := Aside0.mk c33
                    clear c33
                    obtain ⟨y380, hy380⟩ : ∃ y_ : List (S48), y_ = (x5_3 ++ [(⟨1, (⟨0, 0⟩ : S32), 1, 0, (x5_3.length : Int), false⟩ : S48)]) := ⟨_, rfl⟩
                    replace H : (spec_DrawAddGrant.l0 k3 y380 x370000_18 x370001_18 x370002_18 x370003_18 x370004_18 x370005_18 x370006_18) = some (r1, r2, r3, r4, r5, r6, r7, r8) := by first | (rw [hy380]; with_reducible exact H) | (have H2_ := (Option.bind_some _ _).symm.trans H; rw [hy380]; with_reducible exact H2_) | (have H2_ := (Option.bind_some _ _).symm.trans H; with_reducible exact H2_) | with_reducible exact H | (rw [hy380]; exact H) | exact H
                    have Ny380 := Aside0.mk hy380
                    clear hy380
                    have H' := Aside0.mk H
                    clear H
                    obtain ⟨Ao34, co34, eo34⟩ := Kd.R_slice HO_5.out
                    subst eo34
                    go_wp2_with (first | ((with_reducible refine gate_builtin (b := .append) (xs := #[.tmp 32, .tmp 36]) rfl ?_); at_builtin; refine Kd.R_append k48 (w0 := w) w.heap.size rfl (.tmp 32) (.tmp 36) 43 48 (.agg #[(.int .i64 0), (.int .i64 0), (.int .i64 0), (.int .i64 0), (.int .i64 0), (.int .i64 0), (.bool false)]) 56 rfl Try.underlying43 info48 rfl (by decide) (by omega) (.slice Ao34 x5_3.length co34) x5_3 (⟨1, (⟨0, 0⟩ : S32), 1, 0, (x5_3.length : Int), false⟩ : S48) [.int .i64 1, .int .i64 0, .int .i64 0, .int .i64 1, .int .i64 0, .int .i64 (x5_3.length : Int), .bool false] (fun k_ => k_ ≠ gb350 ∧ k_ ≠ gb369) (fun _ => False) rfl rfl ?aP (fun _ hk => hk.elim) ?aF ?aO ?aB ?aS ?aL ?_; (case aP => exact k48_mkM _ _ _ (⟨1, (⟨0, 0⟩ : S32), 1, 0, (x5_3.length : Int), false⟩ : S48)); (case aB => exact (by repeat (first | (with_reducible first | exact HB.out | apply below_alloc | apply pw_below_drewN | apply below_drew1 | refine below_set ?_ GE350.out | refine below_set ?_ GE369.out) | exact HB.out))); (case aF => exact (fun k_ hk => ⟨Kd.freshB (g := gb350) (o := .cells #[.int .i64 0, .int .i64 0, .int .i64 0, .int .i64 0, .int .i64 0, .int .i64 0, .bool false] 48 (0, 0)) (by (with_reducible repeat (first | refine blk_drewN ?_ _ | refine blk_drew ?_ | refine blk_alloc ?_ _)); exact BK350.out) k_ hk, Kd.freshB (g := gb369) (o := .cells #[.int .i64 x370000_18, .int .i64 x370001_18, .int .i64 x370002_18, .int .i64 x370003_18, .int .i64 x370004_18, .int .i64 x370005_18, .bool x370006_18] 48 (0, 0)) (by (with_reducible repeat (first | refine blk_drewN ?_ _ | refine blk_drew ?_ | refine blk_alloc ?_ _)); exact BK369.out) k_ hk⟩)); (case aO => exact (by (with_reducible repeat (first | apply Kd.R_alloc | apply Kd.R_drewN | apply Kd.R_drew)); exact HO_5.out)); (case aS => exact (below_size (by repeat (first | (with_reducible first | exact HB.out | apply below_alloc | apply pw_below_drewN | apply below_drew1 | refine below_set ?_ GE350.out | refine below_set ?_ GE369.out) | exact HB.out)))); (case aL => have := LMc33.out; omega); intro v381 w35 ho hb hg hat; rw [← Ny380.out] at ho; have n0_ := am (blk_grown (g := gb350) (o := .cells #[.int .i64 0, .int .i64 0, .int .i64 0, .int .i64 0, .int .i64 0, .int .i64 0, .bool false] 48 (0, 0)) (by (with_reducible repeat (first | refine blk_drewN ?_ _ | refine blk_drew ?_ | refine blk_alloc ?_ _)); exact BK350.out) hg (Kd.R_away HO_5.out (fun _ hk => hk.1))); have n1_ := am (blk_grown (g := gb369) (o := .cells #[.int .i64 x370000_18, .int .i64 x370001_18, .int .i64 x370002_18, .int .i64 x370003_18, .int .i64 x370004_18, .int .i64 x370005_18, .bool x370006_18] 48 (0, 0)) (by (with_reducible repeat (first | refine blk_drewN ?_ _ | refine blk_drew ?_ | refine blk_alloc ?_ _)); exact BK369.out) hg (Kd.R_away HO_5.out (fun _ hk => hk.2))); have n2_ := am (hb); have n3_ := am (ho); clear BK350; clear BK369; clear HB; clear HO_5; have BK350 := n0_; have BK369 := n1_; have HB := n2_; have HO382 := n3_; clear n0_ n1_ n2_ n3_; clear ho hb hg hat))
                    go_roundg k3
                    case measure => have := HJ4.out; have := HJ18.out; have := HK3.out; omega
                    case rel => exact ⟨(y380), H', ⟨by have := HJ4.out; have := HJ18.out; have := HK3.out; omega⟩, ⟨by (with_reducible repeat (first | apply Kd.R_alloc | apply Kd.R_drewN | apply Kd.R_drew)); exact HO382.out⟩, ⟨by (with_reducible repeat (first | refine blk_drewN ?_ _ | refine blk_drew ?_ | refine blk_alloc ?_ _)); exact BK350.out⟩, ⟨by (with_reducible repeat (first | refine blk_drewN ?_ _ | refine blk_drew ?_ | refine blk_alloc ?_ _)); exact BK369.out⟩, ⟨by repeat (first | (with_reducible first | exact HB.out | apply below_alloc | apply pw_below_drewN | apply below_drew1 | refine below_set ?_ GE350.out | refine below_set ?_ GE369.out) | exact HB.out)⟩⟩
                  · rw [if_neg c33] at H
                    exact absurd H (by simp)
                · rw [if_neg c32] at H
                  have c32b0 : decide ((x5_3.length : Int) < 16) = false := decide_eq_false c32
                  have c32b1 : decide (x5_3.length < 16) = false := decide_eq_false (by omega)
                  clear c32
                  simp only [Option.some.injEq, Prod.mk.injEq] at H
                  obtain ⟨rfl, rfl, rfl, rfl, rfl, rfl, rfl, rfl⟩ := H
                  obtain ⟨Ao36, co36, eo36⟩ := Kd.R_slice HO_5.out
                  subst eo36
                  try go_wp2
                  have n0_ := am (Kd.R_drew HO_5.out)
                  have n1_ := am (blk_drew BK350.out)
                  have n2_ := am (blk_drew BK369.out)
                  have n3_ := am (below_drew1 HB.out)
                  clear HO_5
                  clear BK350
                  clear BK369
                  clear HB
                  have HO_5 := n0_
                  have BK350 := n1_
                  have BK369 := n2_
                  have HB := n3_
                  clear n0_ n1_ n2_ n3_
                  refine start_ (n := 4) (S := fun w' => w'.cell? ⟨gb369, 0, none⟩ = some (.int .i64 x370000_18) ∧ w'.cell? ⟨gb369, 1, none⟩ = some (.int .i64 x370001_18) ∧ w'.cell? ⟨gb369, 2, none⟩ = some (.int .i64 x370002_18) ∧ w'.cell? ⟨gb369, 3, none⟩ = some (.int .i64 x370003_18) ∧ w'.cell? ⟨gb369, 4, none⟩ = some (.int .i64 x370004_18) ∧ w'.cell? ⟨gb369, 5, none⟩ = some (.int .i64 x370005_18) ∧ w'.cell? ⟨gb369, 6, none⟩ = some (.bool x370006_18)) (ds := []) #[false, false, false, false] (by kernel_rfl) rfl rfl ⟨(blk_cell BK369.out 0).trans rfl, (blk_cell BK369.out 1).trans rfl, (blk_cell BK369.out 2).trans rfl, (blk_cell BK369.out 3).trans rfl, (blk_cell BK369.out 4).trans rfl, (blk_cell BK369.out 5).trans rfl, (blk_cell BK369.out 6).trans rfl⟩ (fun hHeld => ?_)
                  generalize wr.drew = w37 at HO_5 BK350 BK369 HB hHeld ⊢
                  refine pure_ (i := 0) (N := some 38) (v := ?_) (a' := ?_) #[true, false, false, false] rfl rfl (by kernel_rfl) (fun _ _ _ h => h) (Or.inl ⟨by rfl, ?_⟩) ?_ ?_
                  rotate_left
                  · intro w'
                    go_simp
                    with_reducible rfl
                  rotate_left
                  · simp only [Act.put, List.setIfInBounds_toArray, List.set_cons_zero, List.set_cons_succ, i64_w, i32_w]
                    rfl
                  refine pure_ (i := 2) (N := some 2) (v := ?_) (a' := ?_) #[true, false, true, false] rfl rfl (by kernel_rfl) (fun _ _ _ h => h) (Or.inl ⟨by rfl, ?_⟩) ?_ ?_
                  rotate_left
                  · intro w'
                    go_simp
                    with_reducible rfl
                  rotate_left
                  · simp only [Act.put, List.setIfInBounds_toArray, List.set_cons_zero, List.set_cons_succ, i64_w, i32_w]
                    rfl
                  refine take_ (i := 1) (N := some 39) (v := ?_) (a' := ?_) #[true, true, true, false] rfl rfl (by kernel_rfl) (fun _ _ _ h => h) (Or.inl ⟨by rfl, ?_⟩) hHeld ?_ ?_
                  rotate_left
                  · rintro w' ⟨s0, s1, s2, s3, s4, s5, s6⟩
                    go_simp
                    with_reducible rfl
                  rotate_left
                  · simp only [Act.put, List.setIfInBounds_toArray, List.set_cons_zero, List.set_cons_succ, i64_w, i32_w]
                    rfl
                  refine one_ (i := 3) (N := none) #[true, true, true, true] rfl rfl (by kernel_rfl) (by decide) (fun K hK => ?_)
                  have hs38 : w37.cell? ⟨gb350, 0, none⟩ = some (.int .i64 0) := (blk_cell BK350.out 0).trans rfl
                  have hfs38 := blk_frozen BK350.out 0
                  have hns38_1 := NB369_350.out
                  have hms38_1 := NB350_369.out
                  have hs39 : w37.cell? ⟨gb350, 1, none⟩ = some (.int .i64 0) := (blk_cell BK350.out 1).trans rfl
                  have hfs39 := blk_frozen BK350.out 1
                  have hns39_1 := NB369_350.out
                  have hms39_1 := NB350_369.out
                  have hs40 : w37.cell? ⟨gb350, 2, none⟩ = some (.int .i64 0) := (blk_cell BK350.out 2).trans rfl
                  have hfs40 := blk_frozen BK350.out 2
                  have hns40_1 := NB369_350.out
                  have hms40_1 := NB350_369.out
                  have hs41 : w37.cell? ⟨gb350, 3, none⟩ = some (.int .i64 0) := (blk_cell BK350.out 3).trans rfl
                  have hfs41 := blk_frozen BK350.out 3
                  have hns41_1 := NB369_350.out
                  have hms41_1 := NB350_369.out
                  have hs42 : w37.cell? ⟨gb350, 4, none⟩ = some (.int .i64 0) := (blk_cell BK350.out 4).trans rfl
                  have hfs42 := blk_frozen BK350.out 4
                  have hns42_1 := NB369_350.out
                  have hms42_1 := NB350_369.out
                  have hs43 : w37.cell? ⟨gb350, 5, none⟩ = some (.int .i64 0) := (blk_cell BK350.out 5).trans rfl
                  have hfs43 := blk_frozen BK350.out 5
                  have hns43_1 := NB369_350.out
                  have hms43_1 := NB350_369.out
                  have hs44 : w37.cell? ⟨gb350, 6, none⟩ = some (.bool false) := (blk_cell BK350.out 6).trans rfl
                  have hfs44 := blk_frozen BK350.out 6
                  have hns44_1 := NB369_350.out
                  have hms44_1 := NB350_369.out
                  refine skip_ (w1 := ?_) (by rfl) rfl ?_ ?_
                  rotate_left
                  · go_simp
                    rfl
                  refine hK.out _ _ ⟨((cell_far (p := ⟨gb350, _, none⟩) NB369_350.out _).trans (((cell_far (p := ⟨gb350, _, none⟩) NB369_350.out _).trans (((cell_far (p := ⟨gb350, _, none⟩) NB369_350.out _).trans (((cell_far (p := ⟨gb350, _, none⟩) NB369_350.out _).trans (((cell_far (p := ⟨gb350, _, none⟩) NB369_350.out _).trans (((cell_far (p := ⟨gb350, _, none⟩) NB369_350.out _).trans (((cell_far (p := ⟨gb350, _, none⟩) NB369_350.out _).trans (hHeld.1)))))))))))))), ((cell_far (p := ⟨gb350, _, none⟩) NB369_350.out _).trans (((cell_far (p := ⟨gb350, _, none⟩) NB369_350.out _).trans (((cell_far (p := ⟨gb350, _, none⟩) NB369_350.out _).trans (((cell_far (p := ⟨gb350, _, none⟩) NB369_350.out _).trans (((cell_far (p := ⟨gb350, _, none⟩) NB369_350.out _).trans (((cell_far (p := ⟨gb350, _, none⟩) NB369_350.out _).trans (((cell_far (p := ⟨gb350, _, none⟩) NB369_350.out _).trans (hHeld.2.1)))))))))))))), ((cell_far (p := ⟨gb350, _, none⟩) NB369_350.out _).trans (((cell_far (p := ⟨gb350, _, none⟩) NB369_350.out _).trans (((cell_far (p := ⟨gb350, _, none⟩) NB369_350.out _).trans (((cell_far (p := ⟨gb350, _, none⟩) NB369_350.out _).trans (((cell_far (p := ⟨gb350, _, none⟩) NB369_350.out _).trans (((cell_far (p := ⟨gb350, _, none⟩) NB369_350.out _).trans (((cell_far (p := ⟨gb350, _, none⟩) NB369_350.out _).trans (hHeld.2.2.1)))))))))))))), ((cell_far (p := ⟨gb350, _, none⟩) NB369_350.out _).trans (((cell_far (p := ⟨gb350, _, none⟩) NB369_350.out _).trans (((cell_far (p := ⟨gb350, _, none⟩) NB369_350.out _).trans (((cell_far (p := ⟨gb350, _, none⟩) NB369_350.out _).trans (((cell_far (p := ⟨gb350, _, none⟩) NB369_350.out _).trans (((cell_far (p := ⟨gb350, _, none⟩) NB369_350.out _).trans (((cell_far (p := ⟨gb350, _, none⟩) NB369_350.out _).trans (hHeld.2.2.2.1)))))))))))))), ((cell_far (p := ⟨gb350, _, none⟩) NB369_350.out _).trans (((cell_far (p := ⟨gb350, _, none⟩) NB369_350.out _).trans (((cell_far (p := ⟨gb350, _, none⟩) NB369_350.out _).trans (((cell_far (p := ⟨gb350, _, none⟩) NB369_350.out _).trans (((cell_far (p := ⟨gb350, _, none⟩) NB369_350.out _).trans (((cell_far (p := ⟨gb350, _, none⟩) NB369_350.out _).trans (((cell_far (p := ⟨gb350, _, none⟩) NB369_350.out _).trans (hHeld.2.2.2.2.1)))))))))))))), ((cell_far (p := ⟨gb350, _, none⟩) NB369_350.out _).trans (((cell_far (p := ⟨gb350, _, none⟩) NB369_350.out _).trans (((cell_far (p := ⟨gb350, _, none⟩) NB369_350.out _).trans (((cell_far (p := ⟨gb350, _, none⟩) NB369_350.out _).trans (((cell_far (p := ⟨gb350, _, none⟩) NB369_350.out _).trans (((cell_far (p := ⟨gb350, _, none⟩) NB369_350.out _).trans (((cell_far (p := ⟨gb350, _, none⟩) NB369_350.out _).trans (hHeld.2.2.2.2.2.1)))))))))))))), ((cell_far (p := ⟨gb350, _, none⟩) NB369_350.out _).trans (((cell_far (p := ⟨gb350, _, none⟩) NB369_350.out _).trans (((cell_far (p := ⟨gb350, _, none⟩) NB369_350.out _).trans (((cell_far (p := ⟨gb350, _, none⟩) NB369_350.out _).trans (((cell_far (p := ⟨gb350, _, none⟩) NB369_350.out _).trans (((cell_far (p := ⟨gb350, _, none⟩) NB369_350.out _).trans (((cell_far (p := ⟨gb350, _, none⟩) NB369_350.out _).trans (hHeld.2.2.2.2.2.2))))))))))))))⟩ (fun hHeld => ?_)
                  clear hK K
                  refine done_ (by kernel_rfl) ?_
                  try go_wp2
                  refine bodyPost_ret (results_tc rfl _ _ gb350 48 #[.int .i64 x370000_18, .int .i64 x370001_18, .int .i64 x370002_18, .int .i64 x370003_18, .int .i64 x370004_18, .int .i64 x370005_18, .bool x370006_18] (0, 0) _ rfl (by (with_reducible repeat (first | refine blk_drewN ?_ _ | refine blk_drew ?_ | refine blk_alloc ?_ _)); refine blk_put (cs := #[.int .i64 x370000_18, .int .i64 x370001_18, .int .i64 x370002_18, .int .i64 x370003_18, .int .i64 x370004_18, .int .i64 x370005_18, .bool false]) ?_ 6 _ rfl; (with_reducible repeat (first | refine blk_drewN ?_ _ | refine blk_drew ?_ | refine blk_alloc ?_ _)); refine blk_put (cs := #[.int .i64 x370000_18, .int .i64 x370001_18, .int .i64 x370002_18, .int .i64 x370003_18, .int .i64 x370004_18, .int .i64 0, .bool false]) ?_ 5 _ rfl; (with_reducible repeat (first | refine blk_drewN ?_ _ | refine blk_drew ?_ | refine blk_alloc ?_ _)); refine blk_put (cs := #[.int .i64 x370000_18, .int .i64 x370001_18, .int .i64 x370002_18, .int .i64 x370003_18, .int .i64 0, .int .i64 0, .bool false]) ?_ 4 _ rfl; (with_reducible repeat (first | refine blk_drewN ?_ _ | refine blk_drew ?_ | refine blk_alloc ?_ _)); refine blk_put (cs := #[.int .i64 x370000_18, .int .i64 x370001_18, .int .i64 x370002_18, .int .i64 0, .int .i64 0, .int .i64 0, .bool false]) ?_ 3 _ rfl; (with_reducible repeat (first | refine blk_drewN ?_ _ | refine blk_drew ?_ | refine blk_alloc ?_ _)); refine blk_put (cs := #[.int .i64 x370000_18, .int .i64 x370001_18, .int .i64 0, .int .i64 0, .int .i64 0, .int .i64 0, .bool false]) ?_ 2 _ rfl; (with_reducible repeat (first | refine blk_drewN ?_ _ | refine blk_drew ?_ | refine blk_alloc ?_ _)); refine blk_put (cs := #[.int .i64 x370000_18, .int .i64 0, .int .i64 0, .int .i64 0, .int .i64 0, .int .i64 0, .bool false]) ?_ 1 _ rfl; (with_reducible repeat (first | refine blk_drewN ?_ _ | refine blk_drew ?_ | refine blk_alloc ?_ _)); refine blk_put (cs := #[.int .i64 0, .int .i64 0, .int .i64 0, .int .i64 0, .int .i64 0, .int .i64 0, .bool false]) ?_ 0 _ rfl; (with_reducible repeat (first | refine blk_drewN ?_ _ | refine blk_drew ?_ | refine blk_alloc ?_ _)); exact BK350.out) Try.underlying48 rfl (by kernel_rfl)) rfl ?_
                  exact ⟨_, by first | rfl | (simp [errW_none, errW_some] <;> rfl) | (simp [*, errW_none, errW_some] <;> rfl), by (with_reducible repeat (first | apply Kd.R_alloc | apply Kd.R_drewN | apply Kd.R_drew)); exact Kd.R_mono (Kd.R_far (p := ⟨gb350, 6, none⟩) (Kd.R_far (p := ⟨gb350, 5, none⟩) (Kd.R_far (p := ⟨gb350, 4, none⟩) (Kd.R_far (p := ⟨gb350, 3, none⟩) (Kd.R_far (p := ⟨gb350, 2, none⟩) (Kd.R_far (p := ⟨gb350, 1, none⟩) (Kd.R_far (p := ⟨gb350, 0, none⟩) (Kd.R_mono HO_5.out (fun k_ hk => (⟨hk, hk.1⟩ : _ ∧ k_ ≠ gb350))) (fun _ hk => hk.2) (.int .i64 x370000_18)) (fun _ hk => hk.2) (.int .i64 x370001_18)) (fun _ hk => hk.2) (.int .i64 x370002_18)) (fun _ hk => hk.2) (.int .i64 x370003_18)) (fun _ hk => hk.2) (.int .i64 x370004_18)) (fun _ hk => hk.2) (.int .i64 x370005_18)) (fun _ hk => hk.2) (.bool x370006_18)) (fun _ hk => trivial), by repeat (first | (with_reducible first | exact HB.out | apply below_alloc | apply pw_below_drewN | apply below_drew1 | refine below_set ?_ GE350.out | refine below_set ?_ GE369.out) | exact HB.out)⟩
          · replace c30 := Bool.eq_false_iff.mpr c30
            subst c30
            have H1 : (some (t355, x370000_18, x370001_18, x370002_18, x370003_18, x370004_18, x370005_18, x370006_18)) = some (r1, r2, r3, r4, r5, r6, r7, r8) := by rw [if_neg (show ¬ (false = true) by decide)] at H; exact H
            clear H
            have H := H1
            clear H1
            simp only [Option.some.injEq, Prod.mk.injEq] at H
            obtain ⟨rfl, rfl, rfl, rfl, rfl, rfl, rfl, rfl⟩ := H
            try go_wp2_with (first | ((with_reducible refine gate_callee (f := 100) rfl ?_); refine goesL_ (some 28) rfl rfl Try.func100 (by kernel_rfl) rfl #[.pointer (some ⟨g354, 0, none⟩), .int .i64 12] rfl (by (try simp only [List.map_toArray, List.map_cons, List.map_nil]); first | done | rfl | (simp only [List.length_drop, List.length_take]; rfl)) ?_; (with_reducible refine (spec_l1Once.calls g354 t351 x355001_18 x355002_18 12 false t378 t379 w _ ?side1 ?side2 A29.out).mono ?_); (case side1 => repeat (first | (with_reducible first | exact HI354.out | apply IsS144.alloc | apply IsS144.drewN | apply IsS144.drew | apply IsS144.set_1 | apply IsS144.set_2 | refine IsS144.far ?_ NB354_350.out _ | refine IsS144.far ?_ NB354_369.out _) | exact HI354.out)); (case side2 => repeat (first | (with_reducible first | exact HB.out | apply below_alloc | apply pw_below_drewN | apply below_drew1 | refine below_set ?_ (IsS144.ge HI354.out) | refine below_set ?_ GE350.out | refine below_set ?_ GE369.out) | exact HB.out)); rintro e w45 ⟨rfl, hi, hb, hk⟩; refine ⟨_, rfl, ?_⟩; have n0_ := am (Kd.R_mono (Kd.R_keep (IsS144.apart (show IsS144 w _ g354 t351 x355001_18 x355002_18 from by repeat (first | (with_reducible first | exact HI354.out | apply IsS144.alloc | apply IsS144.drewN | apply IsS144.drew | apply IsS144.set_1 | apply IsS144.set_2 | refine IsS144.far ?_ NB354_350.out _ | refine IsS144.far ?_ NB354_369.out _) | exact HI354.out)) (by (with_reducible repeat (first | apply Kd.R_alloc | apply Kd.R_drewN | apply Kd.R_drew)); exact HO_5.out) (by decide)) hk (fun _ h => h.2)) (fun _ h => h.1)); have n1_ := am (KeepBut.blk hk (g' := gb350) (o := .cells #[.int .i64 0, .int .i64 0, .int .i64 0, .int .i64 0, .int .i64 0, .int .i64 0, .bool false] 48 (0, 0)) (by (with_reducible repeat (first | refine blk_drewN ?_ _ | refine blk_drew ?_ | refine blk_alloc ?_ _)); exact BK350.out) NB350_354.out (by simp)); have n2_ := am (KeepBut.blk hk (g' := gb369) (o := .cells #[.int .i64 x370000_18, .int .i64 x370001_18, .int .i64 x370002_18, .int .i64 x370003_18, .int .i64 x370004_18, .int .i64 x370005_18, .bool x370006_18] 48 (0, 0)) (by (with_reducible repeat (first | refine blk_drewN ?_ _ | refine blk_drew ?_ | refine blk_alloc ?_ _)); exact BK369.out) NB369_354.out (by simp)); have n3_ := am (hb); have n4_ := am (hi); clear HO_5; clear BK350; clear BK369; clear HB; clear HI354; have HO_5 := n0_; have BK350 := n1_; have BK369 := n2_; have HB := n3_; have HI354 := n4_; clear n0_ n1_ n2_ n3_ n4_; (try clear hb); (try clear hb2); (try clear hk); (try clear hi)))
            have n0_ := am (Kd.R_drew HO_5.out)
            have n1_ := am (blk_drew BK350.out)
            have n2_ := am (blk_drew BK369.out)
            have n3_ := am (IsS144.drew HI354.out)
            have n4_ := am (below_drew1 HB.out)
            clear HO_5
            clear BK350
            clear BK369
            clear HI354
            clear HB
            have HO_5 := n0_
            have BK350 := n1_
            have BK369 := n2_
            have HI354 := n3_
            have HB := n4_
            clear n0_ n1_ n2_ n3_ n4_
            refine start_ (n := 4) (S := fun w' => w'.cell? ⟨gb369, 0, none⟩ = some (.int .i64 x370000_18) ∧ w'.cell? ⟨gb369, 1, none⟩ = some (.int .i64 x370001_18) ∧ w'.cell? ⟨gb369, 2, none⟩ = some (.int .i64 x370002_18) ∧ w'.cell? ⟨gb369, 3, none⟩ = some (.int .i64 x370003_18) ∧ w'.cell? ⟨gb369, 4, none⟩ = some (.int .i64 x370004_18) ∧ w'.cell? ⟨gb369, 5, none⟩ = some (.int .i64 x370005_18) ∧ w'.cell? ⟨gb369, 6, none⟩ = some (.bool x370006_18)) (ds := []) #[false, false, false, false] (by kernel_rfl) rfl rfl ⟨(blk_cell BK369.out 0).trans rfl, (blk_cell BK369.out 1).trans rfl, (blk_cell BK369.out 2).trans rfl, (blk_cell BK369.out 3).trans rfl, (blk_cell BK369.out 4).trans rfl, (blk_cell BK369.out 5).trans rfl, (blk_cell BK369.out 6).trans rfl⟩ (fun hHeld => ?_)
            generalize w45.drew = w46 at HO_5 BK350 BK369 HI354 HB hHeld ⊢
            refine pure_ (i := 0) (N := some 38) (v := ?_) (a' := ?_) #[true, false, false, false] rfl rfl (by kernel_rfl) (fun _ _ _ h => h) (Or.inl ⟨by rfl, ?_⟩) ?_ ?_
            rotate_left
            · intro w'
              go_simp
              with_reducible rfl
            rotate_left
            · simp only [Act.put, List.setIfInBounds_toArray, List.set_cons_zero, List.set_cons_succ, i64_w, i32_w]
              rfl
            refine pure_ (i := 2) (N := some 2) (v := ?_) (a' := ?_) #[true, false, true, false] rfl rfl (by kernel_rfl) (fun _ _ _ h => h) (Or.inl ⟨by rfl, ?_⟩) ?_ ?_
            rotate_left
            · intro w'
              go_simp
              with_reducible rfl
            rotate_left
            · simp only [Act.put, List.setIfInBounds_toArray, List.set_cons_zero, List.set_cons_succ, i64_w, i32_w]
              rfl
            refine take_ (i := 1) (N := some 39) (v := ?_) (a' := ?_) #[true, true, true, false] rfl rfl (by kernel_rfl) (fun _ _ _ h => h) (Or.inl ⟨by rfl, ?_⟩) hHeld ?_ ?_
            rotate_left
            · rintro w' ⟨s0, s1, s2, s3, s4, s5, s6⟩
              go_simp
              with_reducible rfl
            rotate_left
            · simp only [Act.put, List.setIfInBounds_toArray, List.set_cons_zero, List.set_cons_succ, i64_w, i32_w]
              rfl
            refine one_ (i := 3) (N := none) #[true, true, true, true] rfl rfl (by kernel_rfl) (by decide) (fun K hK => ?_)
            have hs47 : w46.cell? ⟨gb350, 0, none⟩ = some (.int .i64 0) := (blk_cell BK350.out 0).trans rfl
            have hfs47 := blk_frozen BK350.out 0
            have hns47_1 := NB369_350.out
            have hms47_1 := NB350_369.out
            have hs48 : w46.cell? ⟨gb350, 1, none⟩ = some (.int .i64 0) := (blk_cell BK350.out 1).trans rfl
            have hfs48 := blk_frozen BK350.out 1
            have hns48_1 := NB369_350.out
            have hms48_1 := NB350_369.out
            have hs49 : w46.cell? ⟨gb350, 2, none⟩ = some (.int .i64 0) := (blk_cell BK350.out 2).trans rfl
            have hfs49 := blk_frozen BK350.out 2
            have hns49_1 := NB369_350.out
            have hms49_1 := NB350_369.out
            have hs50 : w46.cell? ⟨gb350, 3, none⟩ = some (.int .i64 0) := (blk_cell BK350.out 3).trans rfl
            have hfs50 := blk_frozen BK350.out 3
            have hns50_1 := NB369_350.out
            have hms50_1 := NB350_369.out
            have hs51 : w46.cell? ⟨gb350, 4, none⟩ = some (.int .i64 0) := (blk_cell BK350.out 4).trans rfl
            have hfs51 := blk_frozen BK350.out 4
            have hns51_1 := NB369_350.out
            have hms51_1 := NB350_369.out
            have hs52 : w46.cell? ⟨gb350, 5, none⟩ = some (.int .i64 0) := (blk_cell BK350.out 5).trans rfl
            have hfs52 := blk_frozen BK350.out 5
            have hns52_1 := NB369_350.out
            have hms52_1 := NB350_369.out
            have hs53 : w46.cell? ⟨gb350, 6, none⟩ = some (.bool false) := (blk_cell BK350.out 6).trans rfl
            have hfs53 := blk_frozen BK350.out 6
            have hns53_1 := NB369_350.out
            have hms53_1 := NB350_369.out
            refine skip_ (w1 := ?_) (by rfl) rfl ?_ ?_
            rotate_left
            · go_simp
              rfl
            refine hK.out _ _ ⟨((cell_far (p := ⟨gb350, _, none⟩) NB369_350.out _).trans (((cell_far (p := ⟨gb350, _, none⟩) NB369_350.out _).trans (((cell_far (p := ⟨gb350, _, none⟩) NB369_350.out _).trans (((cell_far (p := ⟨gb350, _, none⟩) NB369_350.out _).trans (((cell_far (p := ⟨gb350, _, none⟩) NB369_350.out _).trans (((cell_far (p := ⟨gb350, _, none⟩) NB369_350.out _).trans (((cell_far (p := ⟨gb350, _, none⟩) NB369_350.out _).trans (hHeld.1)))))))))))))), ((cell_far (p := ⟨gb350, _, none⟩) NB369_350.out _).trans (((cell_far (p := ⟨gb350, _, none⟩) NB369_350.out _).trans (((cell_far (p := ⟨gb350, _, none⟩) NB369_350.out _).trans (((cell_far (p := ⟨gb350, _, none⟩) NB369_350.out _).trans (((cell_far (p := ⟨gb350, _, none⟩) NB369_350.out _).trans (((cell_far (p := ⟨gb350, _, none⟩) NB369_350.out _).trans (((cell_far (p := ⟨gb350, _, none⟩) NB369_350.out _).trans (hHeld.2.1)))))))))))))), ((cell_far (p := ⟨gb350, _, none⟩) NB369_350.out _).trans (((cell_far (p := ⟨gb350, _, none⟩) NB369_350.out _).trans (((cell_far (p := ⟨gb350, _, none⟩) NB369_350.out _).trans (((cell_far (p := ⟨gb350, _, none⟩) NB369_350.out _).trans (((cell_far (p := ⟨gb350, _, none⟩) NB369_350.out _).trans (((cell_far (p := ⟨gb350, _, none⟩) NB369_350.out _).trans (((cell_far (p := ⟨gb350, _, none⟩) NB369_350.out _).trans (hHeld.2.2.1)))))))))))))), ((cell_far (p := ⟨gb350, _, none⟩) NB369_350.out _).trans (((cell_far (p := ⟨gb350, _, none⟩) NB369_350.out _).trans (((cell_far (p := ⟨gb350, _, none⟩) NB369_350.out _).trans (((cell_far (p := ⟨gb350, _, none⟩) NB369_350.out _).trans (((cell_far (p := ⟨gb350, _, none⟩) NB369_350.out _).trans (((cell_far (p := ⟨gb350, _, none⟩) NB369_350.out _).trans (((cell_far (p := ⟨gb350, _, none⟩) NB369_350.out _).trans (hHeld.2.2.2.1)))))))))))))), ((cell_far (p := ⟨gb350, _, none⟩) NB369_350.out _).trans (((cell_far (p := ⟨gb350, _, none⟩) NB369_350.out _).trans (((cell_far (p := ⟨gb350, _, none⟩) NB369_350.out _).trans (((cell_far (p := ⟨gb350, _, none⟩) NB369_350.out _).trans (((cell_far (p := ⟨gb350, _, none⟩) NB369_350.out _).trans (((cell_far (p := ⟨gb350, _, none⟩) NB369_350.out _).trans (((cell_far (p := ⟨gb350, _, none⟩) NB369_350.out _).trans (hHeld.2.2.2.2.1)))))))))))))), ((cell_far (p := ⟨gb350, _, none⟩) NB369_350.out _).trans (((cell_far (p := ⟨gb350, _, none⟩) NB369_350.out _).trans (((cell_far (p := ⟨gb350, _, none⟩) NB369_350.out _).trans (((cell_far (p := ⟨gb350, _, none⟩) NB369_350.out _).trans (((cell_far (p := ⟨gb350, _, none⟩) NB369_350.out _).trans (((cell_far (p := ⟨gb350, _, none⟩) NB369_350.out _).trans (((cell_far (p := ⟨gb350, _, none⟩) NB369_350.out _).trans (hHeld.2.2.2.2.2.1)))))))))))))), ((cell_far (p := ⟨gb350, _, none⟩) NB369_350.out _).trans (((cell_far (p := ⟨gb350, _, none⟩) NB369_350.out _).trans (((cell_far (p := ⟨gb350, _, none⟩) NB369_350.out _).trans (((cell_far (p := ⟨gb350, _, none⟩) NB369_350.out _).trans (((cell_far (p := ⟨gb350, _, none⟩) NB369_350.out _).trans (((cell_far (p := ⟨gb350, _, none⟩) NB369_350.out _).trans (((cell_far (p := ⟨gb350, _, none⟩) NB369_350.out _).trans (hHeld.2.2.2.2.2.2))))))))))))))⟩ (fun hHeld => ?_)
            clear hK K
            refine done_ (by kernel_rfl) ?_
            try go_wp2
            refine bodyPost_ret (results_tc rfl _ _ gb350 48 #[.int .i64 x370000_18, .int .i64 x370001_18, .int .i64 x370002_18, .int .i64 x370003_18, .int .i64 x370004_18, .int .i64 x370005_18, .bool x370006_18] (0, 0) _ rfl (by (with_reducible repeat (first | refine blk_drewN ?_ _ | refine blk_drew ?_ | refine blk_alloc ?_ _)); refine blk_put (cs := #[.int .i64 x370000_18, .int .i64 x370001_18, .int .i64 x370002_18, .int .i64 x370003_18, .int .i64 x370004_18, .int .i64 x370005_18, .bool false]) ?_ 6 _ rfl; (with_reducible repeat (first | refine blk_drewN ?_ _ | refine blk_drew ?_ | refine blk_alloc ?_ _)); refine blk_put (cs := #[.int .i64 x370000_18, .int .i64 x370001_18, .int .i64 x370002_18, .int .i64 x370003_18, .int .i64 x370004_18, .int .i64 0, .bool false]) ?_ 5 _ rfl; (with_reducible repeat (first | refine blk_drewN ?_ _ | refine blk_drew ?_ | refine blk_alloc ?_ _)); refine blk_put (cs := #[.int .i64 x370000_18, .int .i64 x370001_18, .int .i64 x370002_18, .int .i64 x370003_18, .int .i64 0, .int .i64 0, .bool false]) ?_ 4 _ rfl; (with_reducible repeat (first | refine blk_drewN ?_ _ | refine blk_drew ?_ | refine blk_alloc ?_ _)); refine blk_put (cs := #[.int .i64 x370000_18, .int .i64 x370001_18, .int .i64 x370002_18, .int .i64 0, .int .i64 0, .int .i64 0, .bool false]) ?_ 3 _ rfl; (with_reducible repeat (first | refine blk_drewN ?_ _ | refine blk_drew ?_ | refine blk_alloc ?_ _)); refine blk_put (cs := #[.int .i64 x370000_18, .int .i64 x370001_18, .int .i64 0, .int .i64 0, .int .i64 0, .int .i64 0, .bool false]) ?_ 2 _ rfl; (with_reducible repeat (first | refine blk_drewN ?_ _ | refine blk_drew ?_ | refine blk_alloc ?_ _)); refine blk_put (cs := #[.int .i64 x370000_18, .int .i64 0, .int .i64 0, .int .i64 0, .int .i64 0, .int .i64 0, .bool false]) ?_ 1 _ rfl; (with_reducible repeat (first | refine blk_drewN ?_ _ | refine blk_drew ?_ | refine blk_alloc ?_ _)); refine blk_put (cs := #[.int .i64 0, .int .i64 0, .int .i64 0, .int .i64 0, .int .i64 0, .int .i64 0, .bool false]) ?_ 0 _ rfl; (with_reducible repeat (first | refine blk_drewN ?_ _ | refine blk_drew ?_ | refine blk_alloc ?_ _)); exact BK350.out) Try.underlying48 rfl (by kernel_rfl)) rfl ?_
            exact ⟨_, by first | rfl | (simp [errW_none, errW_some] <;> rfl) | (simp [*, errW_none, errW_some] <;> rfl), by (with_reducible repeat (first | apply Kd.R_alloc | apply Kd.R_drewN | apply Kd.R_drew)); exact Kd.R_mono (Kd.R_far (p := ⟨gb350, 6, none⟩) (Kd.R_far (p := ⟨gb350, 5, none⟩) (Kd.R_far (p := ⟨gb350, 4, none⟩) (Kd.R_far (p := ⟨gb350, 3, none⟩) (Kd.R_far (p := ⟨gb350, 2, none⟩) (Kd.R_far (p := ⟨gb350, 1, none⟩) (Kd.R_far (p := ⟨gb350, 0, none⟩) (Kd.R_mono HO_5.out (fun k_ hk => (⟨hk, hk.1⟩ : _ ∧ k_ ≠ gb350))) (fun _ hk => hk.2) (.int .i64 x370000_18)) (fun _ hk => hk.2) (.int .i64 x370001_18)) (fun _ hk => hk.2) (.int .i64 x370002_18)) (fun _ hk => hk.2) (.int .i64 x370003_18)) (fun _ hk => hk.2) (.int .i64 x370004_18)) (fun _ hk => hk.2) (.int .i64 x370005_18)) (fun _ hk => hk.2) (.bool x370006_18)) (fun _ hk => trivial), by repeat (first | (with_reducible first | exact HB.out | apply below_alloc | apply pw_below_drewN | apply below_drew1 | refine below_set ?_ (IsS144.ge HI354.out) | refine below_set ?_ GE350.out | refine below_set ?_ GE369.out) | exact HB.out)⟩

end Go.Proofs.Ytacgichgadoddaa.QI
