/- Go functions as Lean functions, each with its walk; printed by a program of this session (a scratch copy of print.py that follows nested field addresses and tells a law for the answer true). -/
import Derived.Test.YtacgichgadoddaaQIx0
import Derived.Test.YtacgichgadoddaaQIx27
import Derived.Test.YtacgichgadoddaaQIxM0
namespace Go.Proofs.Ytacgichgadoddaa.QI
open Go.RowKit Go.Proofs.YtacgichgadoddaaW.PrintWords Go.Proofs.YtacgichgadoddaaW.PrintLast Go.Proofs.YtacgichgadoddaaW.PrintMore Go.Proofs.Ytacgichgadoddaa.Short
attribute [local go_sem] max2_int min2_int max_two min_two max_three min_three max_four min_four   -- for this text's walks alone
set_option linter.unusedVariables false
set_option linter.unusedSimpArgs false

/-! ### spec_DrawExpireGrants: function 41 -/
def spec_DrawExpireGrants.j0 : Nat → List (S48) → Bool → List Int → Int → Int → Option ((List (S48)) × Int)
  | 0, _, _, _, _, _ => none
  | k + 1, x5, x16, x317000, x317001, x317002 => if x16 = true then ((spec_l10Any.f x317000 x317001 x317002).bind fun bt325 => (if 0 < (x5.length : Int) then ((spec_l1Below.f x317000 bt325.2.2.2.2.2.2.2.1 bt325.2.2.2.2.2.2.2.2 20).bind fun bt335 => (some ((x5.set (0 : Int).toNat (⟨bt325.1, (⟨bt325.2.1, bt325.2.2.1⟩ : S32), bt325.2.2.2.1, bt325.2.2.2.2.1, bt325.2.2.2.2.2.1, bt325.2.2.2.2.2.2.1⟩ : S48)), bt335.1))) else (none))) else ((spec_l1Below.f x317000 x317001 x317002 20).bind fun bt338 => (some (x5, bt338.1)))
def spec_DrawExpireGrants.f (k : Nat) (l0 : List Int) : Option ((List (S48)) × Int) := (spec_l1New.f k l0).bind fun bt313 => ((spec_l10List.f k bt313.1 bt313.2.1 bt313.2.2).bind fun bt317 => (if (bt317.1.length : Int) > 0 then ((spec_l1Once.f bt313.1 bt317.2.1 bt317.2.2 4).bind fun bt322 => (spec_DrawExpireGrants.j0 k bt317.1 bt322.1 bt313.1 bt322.2.1 bt322.2.2)) else (spec_DrawExpireGrants.j0 k bt317.1 false bt313.1 bt317.2.1 bt317.2.2)))
theorem spec_DrawExpireGrants.mono_l : ∀ k, (∀ y0 y1 y2 y3 y4, LeO (spec_DrawExpireGrants.j0 k y0 y1 y2 y3 y4) (spec_DrawExpireGrants.j0 (k + 1) y0 y1 y2 y3 y4))
  | 0 => fun _ _ _ _ _ r h => by simp [spec_DrawExpireGrants.j0] at h
  | k + 1 => by
    have ih0 := spec_DrawExpireGrants.mono_l k
    · intro y0 y1 y2 y3 y4
      unfold spec_DrawExpireGrants.j0
      repeat' first
      | (with_reducible exact ih0 _ _ _ _ _)
      | (with_reducible exact spec_l10List.mono _ _ _ _)
      | (with_reducible exact spec_l1New.mono _ _)
      | (with_reducible exact LeO.refl _)
      | (with_reducible exact LeO.none _)
      | (with_reducible refine LeO.ite ?_ ?_)
      | (with_reducible refine LeO.bind ?_ (fun _ => ?_))
      | exact ih0 _ _ _ _ _
      | exact spec_l10List.mono _ _ _ _
      | exact spec_l1New.mono _ _
      | exact LeO.none _
      | refine LeO.ite ?_ ?_
      | refine LeO.bind ?_ (fun _ => ?_)
theorem spec_DrawExpireGrants.mono : ∀ a0 k, LeO (spec_DrawExpireGrants.f k a0) (spec_DrawExpireGrants.f (k + 1) a0) := by
  intro a0 k
  have ih0 := spec_DrawExpireGrants.mono_l k
  unfold spec_DrawExpireGrants.f
  repeat' first
      | (with_reducible exact ih0 _ _ _ _ _)
      | (with_reducible exact spec_l10List.mono _ _ _ _)
      | (with_reducible exact spec_l1New.mono _ _)
      | (with_reducible exact LeO.refl _)
      | (with_reducible exact LeO.none _)
      | (with_reducible refine LeO.ite ?_ ?_)
      | (with_reducible refine LeO.bind ?_ (fun _ => ?_))
      | exact ih0 _ _ _ _ _
      | exact spec_l10List.mono _ _ _ _
      | exact spec_l1New.mono _ _
      | exact LeO.none _
      | refine LeO.ite ?_ ?_
      | refine LeO.bind ?_ (fun _ => ?_)
set_option maxHeartbeats 8000000 in
set_option maxRecDepth 100000 in
theorem spec_DrawExpireGrants.calls (k : Nat) (A0 : Option Addr) (c0 : Nat) (l0 : List Int) (r1 : List (S48)) (r2 : Int) (w : World) (hr0 : Kd.C (Kd.int .u8) w A0 l0.length l0) (hc0 : l0.length ≤ c0) (h : spec_DrawExpireGrants.f k l0 = some (r1, r2)) :
    Calls Try.prog 41 #[.slice A0 l0.length c0] w fun e w' => ∃ v0_ : Value, e = .returned (.tuple #[v0_, .int .i64 r2]) ∧ Kd.R k48 48 w' w.heap.size (fun _ => True) v0_ r1 ∧ Below w.heap.size w w' := by
  have hu48 := Try.underlying48
  have HR0 := Aside0.mk hr0
  have HC0 := Aside0.mk hc0
  clear hr0 hc0
  have HB := am (Below.refl w.heap.size w)
  have H : ((spec_l1New.f k l0).bind fun bt313 => ((spec_l10List.f k bt313.1 bt313.2.1 bt313.2.2).bind fun bt317 => (if (bt317.1.length : Int) > 0 then ((spec_l1Once.f bt313.1 bt317.2.1 bt317.2.2 4).bind fun bt322 => (spec_DrawExpireGrants.j0 k bt317.1 bt322.1 bt313.1 bt322.2.1 bt322.2.2)) else (spec_DrawExpireGrants.j0 k bt317.1 false bt313.1 bt317.2.1 bt317.2.2)))) = some (r1, r2) := h
  clear h
  replace H := Option.bind_eq_some_iff.mp H
  obtain ⟨⟨t313, t314, t315⟩, A20, H⟩ := H
  replace H : ((spec_l10List.f k t313 t314 t315).bind fun bt317 => (if (bt317.1.length : Int) > 0 then ((spec_l1Once.f t313 bt317.2.1 bt317.2.2 4).bind fun bt322 => (spec_DrawExpireGrants.j0 k bt317.1 bt322.1 t313 bt322.2.1 bt322.2.2)) else (spec_DrawExpireGrants.j0 k bt317.1 false t313 bt317.2.1 bt317.2.2))) = some (r1, r2) := H
  have A2 := Aside0.mk A20
  clear A20
  replace H := Option.bind_eq_some_iff.mp H
  obtain ⟨⟨t317, t320, t321⟩, A30, H⟩ := H
  replace H : (if (t317.length : Int) > 0 then ((spec_l1Once.f t313 t320 t321 4).bind fun bt322 => (spec_DrawExpireGrants.j0 k t317 bt322.1 t313 bt322.2.1 bt322.2.2)) else (spec_DrawExpireGrants.j0 k t317 false t313 t320 t321)) = some (r1, r2) := H
  have A3 := Aside0.mk A30
  clear A30
  have HC4 := Aside0.mk H
  clear H
  go_enter Try.func41, Try.ntmps41
  go_upto_region 3 with (first | ((with_reducible refine gate_callee (f := 96) rfl ?_); refine goesL_ (some 7) rfl rfl Try.func96 (by kernel_rfl) rfl #[.slice A0 l0.length c0] rfl (by (try simp only [List.map_toArray, List.map_cons, List.map_nil]); first | done | rfl | (simp only [List.length_drop, List.length_take]; rfl)) ?_; (with_reducible refine (spec_l1New.calls k _ _ l0 t313 t314 t315 w _ ?side1 ?side2 ?side3 A2.out).mono ?_); (case side1 => repeat (first | (with_reducible first | exact HB.out | apply below_alloc | apply pw_below_drewN | apply below_drew1) | exact HB.out)); (case side2 => exact HR0.out); (case side3 => exact HC0.out); rintro e w5 ⟨g316, rfl, hi, hb, hb2⟩; refine ⟨_, rfl, ?_⟩; have n0_ := am (hb); have n1_ := am (hi); clear HB; have HB := n0_; have HI316 := n1_; clear n0_ n1_; (try clear hb); (try clear hb2); (try clear hk); (try clear hi)) | ((with_reducible refine gate_callee (f := 97) rfl ?_); refine goesL_ (some 9) rfl rfl Try.func97 (by kernel_rfl) rfl #[.pointer (some ⟨g316, 0, none⟩)] rfl (by (try simp only [List.map_toArray, List.map_cons, List.map_nil]); first | done | rfl | (simp only [List.length_drop, List.length_take]; rfl)) ?_; (with_reducible refine (spec_l10List.calls k g316 t313 t314 t315 t317 t320 t321 w _ ?side1 ?side2 A3.out).mono ?_); (case side1 => repeat (first | (with_reducible first | exact HI316.out | apply IsS144.alloc | apply IsS144.drewN | apply IsS144.drew | apply IsS144.set_1 | apply IsS144.set_2) | exact HI316.out)); (case side2 => repeat (first | (with_reducible first | exact HB.out | apply below_alloc | apply pw_below_drewN | apply below_drew1 | refine below_set ?_ (IsS144.ge HI316.out)) | exact HB.out)); rintro e w6 ⟨v318, rfl, ho0, hi, hb, hk⟩; refine ⟨_, rfl, ?_⟩; have n0_ := am (Kd.R_lower ho0 (below_size (by repeat (first | (with_reducible first | exact HB.out | apply below_alloc | apply pw_below_drewN | apply below_drew1 | refine below_set ?_ (IsS144.ge HI316.out)) | exact HB.out)))); have n1_ := am (hb); have n2_ := am (hi); clear HB; clear HI316; have HO319 := n0_; have HB := n1_; have HI316 := n2_; clear n0_ n1_ n2_; (try clear hb); (try clear hb2); (try clear hk); (try clear hi); (try clear ho0)))
  (try simp only [Act.put, List.setIfInBounds_toArray, List.set_cons_zero, List.set_cons_succ])
  go_cut [16] (fun v16 wc => ∃ (kq : Nat) (x16_3 : Bool) (x317001_3 : Int) (x317002_3 : Int), v16 = .bool x16_3 ∧ Aside0 (spec_DrawExpireGrants.j0 kq t317 x16_3 t313 x317001_3 x317002_3 = some (r1, r2)) ∧ Aside0 (kq ≤ k) ∧ Aside0 (Kd.R k48 48 wc w.heap.size (fun _ => True) v318 t317) ∧ Aside0 (IsS144 w wc g316 t313 x317001_3 x317002_3) ∧ Aside0 (Below w.heap.size w wc))
  case first =>
    have H := HC4.out
    clear HC4
    by_cases c7 : (t317.length : Int) > 0
    · rw [if_pos c7] at H
      have c7b0 : decide (0 < (t317.length : Int)) = true := decide_eq_true c7
      have c7b1 : decide (0 < t317.length) = true := decide_eq_true (by omega)
      clear c7
      (first | rw [c7b0] | (simp only [i64_w, i32_w]; rw [c7b0]) | skip)
      replace H := Option.bind_eq_some_iff.mp H
      obtain ⟨⟨t322, t323, t324⟩, A80, H⟩ := H
      replace H : (spec_DrawExpireGrants.j0 k t317 t322 t313 t323 t324) = some (r1, r2) := H
      have A8 := Aside0.mk A80
      clear A80
      have H' := Aside0.mk H
      clear H
      obtain ⟨Ao9, co9, eo9⟩ := Kd.R_slice HO319.out
      subst eo9
      go_wp2_with (first | (go_at_call 100; (with_reducible refine (spec_l1Once.calls g316 t313 t320 t321 4 t322 t323 t324 w _ ?side1 ?side2 A8.out).mono ?_); (case side1 => repeat (first | (with_reducible first | exact HI316.out | apply IsS144.alloc | apply IsS144.drewN | apply IsS144.drew | apply IsS144.set_1 | apply IsS144.set_2) | exact HI316.out)); (case side2 => repeat (first | (with_reducible first | exact HB.out | apply below_alloc | apply pw_below_drewN | apply below_drew1 | refine below_set ?_ (IsS144.ge HI316.out)) | exact HB.out)); rintro e w10 ⟨rfl, hi, hb, hk⟩; have n0_ := am (Kd.R_mono (Kd.R_keep (IsS144.apart (show IsS144 w _ g316 t313 t320 t321 from by repeat (first | (with_reducible first | exact HI316.out | apply IsS144.alloc | apply IsS144.drewN | apply IsS144.drew | apply IsS144.set_1 | apply IsS144.set_2) | exact HI316.out)) (by (with_reducible repeat (first | apply Kd.R_alloc | apply Kd.R_drewN | apply Kd.R_drew)); exact HO319.out) (by decide)) hk (fun _ h => h.2)) (fun _ h => h.1)); have n1_ := am (hb); have n2_ := am (hi); clear HO319; clear HB; clear HI316; have HO319 := n0_; have HB := n1_; have HI316 := n2_; clear n0_ n1_ n2_; (try clear hb); (try clear hb2); (try clear hk); (try clear hi)))
      go_meet
      case rel => exact ⟨_, (t322), (t323), (t324), (by first | rfl | (simp; done) | (simp [*]; done)), H', ⟨by first | omega | exact Nat.le_refl _⟩, ⟨by (with_reducible repeat (first | apply Kd.R_alloc | apply Kd.R_drewN | apply Kd.R_drew)); exact HO319.out⟩, ⟨by repeat (first | (with_reducible first | exact HI316.out | apply IsS144.alloc | apply IsS144.drewN | apply IsS144.drew | apply IsS144.set_1 | apply IsS144.set_2) | exact HI316.out)⟩, ⟨by repeat (first | (with_reducible first | exact HB.out | apply below_alloc | apply pw_below_drewN | apply below_drew1 | refine below_set ?_ (IsS144.ge HI316.out)) | exact HB.out)⟩⟩
    · rw [if_neg c7] at H
      have c7b0 : decide (0 < (t317.length : Int)) = false := decide_eq_false c7
      have c7b1 : decide (0 < t317.length) = false := decide_eq_false (by omega)
      clear c7
      (first | rw [c7b0] | (simp only [i64_w, i32_w]; rw [c7b0]) | skip)
      have H' := Aside0.mk H
      clear H
      obtain ⟨Ao11, co11, eo11⟩ := Kd.R_slice HO319.out
      subst eo11
      go_wp2
      go_meet
      case rel => exact ⟨_, (false), (t320), (t321), (by first | rfl | (simp; done) | (simp [*]; done)), H', ⟨by first | omega | exact Nat.le_refl _⟩, ⟨by (with_reducible repeat (first | apply Kd.R_alloc | apply Kd.R_drewN | apply Kd.R_drew)); exact HO319.out⟩, ⟨by repeat (first | (with_reducible first | exact HI316.out | apply IsS144.alloc | apply IsS144.drewN | apply IsS144.drew | apply IsS144.set_1 | apply IsS144.set_2) | exact HI316.out)⟩, ⟨by repeat (first | (with_reducible first | exact HB.out | apply below_alloc | apply pw_below_drewN | apply below_drew1 | refine below_set ?_ (IsS144.ge HI316.out)) | exact HB.out)⟩⟩
  case rest =>
    clear HC4
    try clear p2
    try clear c4
    try clear c7
    try clear c7b0
    try clear c7b1
    try clear c9
    obtain ⟨kq, x16_3, x317001_3, x317002_3, rfl, HA, HJ3, HO_5, HI316, HB⟩ := hcut
    cases kq with
    | zero => exact absurd HA.out (by simp [spec_DrawExpireGrants.j0])
    | succ kj3 =>
      have H := HA.out
      clear HA
      simp only [spec_DrawExpireGrants.j0] at H
      by_cases c12 : x16_3 = true
      · subst c12
        have H1 : ((spec_l10Any.f t313 x317001_3 x317002_3).bind fun bt325 => (if 0 < (t317.length : Int) then ((spec_l1Below.f t313 bt325.2.2.2.2.2.2.2.1 bt325.2.2.2.2.2.2.2.2 20).bind fun bt335 => (some ((t317.set (0 : Int).toNat (⟨bt325.1, (⟨bt325.2.1, bt325.2.2.1⟩ : S32), bt325.2.2.2.1, bt325.2.2.2.2.1, bt325.2.2.2.2.2.1, bt325.2.2.2.2.2.2.1⟩ : S48)), bt335.1))) else (none))) = some (r1, r2) := by rw [if_pos rfl] at H; exact H
        clear H
        have H := H1
        clear H1
        replace H := Option.bind_eq_some_iff.mp H
        obtain ⟨⟨t325, t326, t327, t328, t329, t330, t331, t332, t333⟩, A130, H⟩ := H
        replace H : (if 0 < (t317.length : Int) then ((spec_l1Below.f t313 t332 t333 20).bind fun bt335 => (some ((t317.set (0 : Int).toNat (⟨t325, (⟨t326, t327⟩ : S32), t328, t329, t330, t331⟩ : S48)), bt335.1))) else (none)) = some (r1, r2) := H
        have A13 := Aside0.mk A130
        clear A130
        by_cases c14 : 0 < (t317.length : Int)
        · rw [if_pos c14] at H
          have c14b0 : decide (0 < (t317.length : Int)) = true := decide_eq_true c14
          have c14b1 : decide (0 < t317.length) = true := decide_eq_true (by omega)
          clear c14
          obtain ⟨y334, hy334⟩ : ∃ y_ : List (S48), y_ = (t317.set (0 : Int).toNat (⟨t325, (⟨t326, t327⟩ : S32), t328, t329, t330, t331⟩ : S48)) := ⟨_, rfl⟩
          replace H : ((spec_l1Below.f t313 t332 t333 20).bind fun bt335 => (some (y334, bt335.1))) = some (r1, r2) := by first | (rw [hy334]; with_reducible exact H) | (have H2_ := (Option.bind_some _ _).symm.trans H; rw [hy334]; with_reducible exact H2_) | (have H2_ := (Option.bind_some _ _).symm.trans H; with_reducible exact H2_) | with_reducible exact H | (rw [hy334]; exact H) | exact H
          have Ny334 := Aside0.mk hy334
          clear hy334
          replace H := Option.bind_eq_some_iff.mp H
          obtain ⟨⟨t335, t336, t337⟩, A160, H⟩ := H
          replace H : (some (y334, t335)) = some (r1, r2) := H
          have A16 := Aside0.mk A160
          clear A160
          simp only [Option.some.injEq, Prod.mk.injEq] at H
          obtain ⟨rfl, rfl⟩ := H
          go_wp2_with (first | ((with_reducible refine gate_callee (f := 102) rfl ?_); refine goesL_ (some 19) rfl rfl Try.func102 (by kernel_rfl) rfl #[.pointer (some ⟨g316, 0, none⟩)] rfl (by (try simp only [List.map_toArray, List.map_cons, List.map_nil]); first | done | rfl | (simp only [List.length_drop, List.length_take]; rfl)) ?_; (with_reducible refine (spec_l10Any.calls g316 t313 x317001_3 x317002_3 t325 t326 t327 t328 t329 t330 t331 t332 t333 w _ ?side1 ?side2 A13.out).mono ?_); (case side1 => repeat (first | (with_reducible first | exact HI316.out | apply IsS144.alloc | apply IsS144.drewN | apply IsS144.drew | apply IsS144.set_1 | apply IsS144.set_2) | exact HI316.out)); (case side2 => repeat (first | (with_reducible first | exact HB.out | apply below_alloc | apply pw_below_drewN | apply below_drew1 | refine below_set ?_ (IsS144.ge HI316.out)) | exact HB.out)); rintro e w17 ⟨rfl, hi, hb, hk⟩; refine ⟨_, rfl, ?_⟩; have n0_ := am (Kd.R_mono (Kd.R_keep (IsS144.apart (show IsS144 w _ g316 t313 x317001_3 x317002_3 from by repeat (first | (with_reducible first | exact HI316.out | apply IsS144.alloc | apply IsS144.drewN | apply IsS144.drew | apply IsS144.set_1 | apply IsS144.set_2) | exact HI316.out)) (by (with_reducible repeat (first | apply Kd.R_alloc | apply Kd.R_drewN | apply Kd.R_drew)); exact HO_5.out) (by decide)) hk (fun _ h => h.2)) (fun _ h => h.1)); have n1_ := am (hb); have n2_ := am (hi); clear HO_5; clear HB; clear HI316; have HO_5 := n0_; have HB := n1_; have HI316 := n2_; clear n0_ n1_ n2_; (try clear hb); (try clear hb2); (try clear hk); (try clear hi); have p15 : 0 ≤ (0 : Int) := (by omega); have q15 : (0 : Int) < ((t317.length : Int) : Int) := of_decide_eq_true (by first | (with_reducible assumption) | assumption); have qi15 : (0 < t317.length) = True := eq_true (by omega); obtain ⟨go15, co15, eo15, gb15, gl15, cl15, HG15⟩ := Kd.R_form HO_5.out (by omega); (first | cases eo15 | (injection eo15 with ea_ en_ ec_; (first | subst ea_ | (injection ea_ with ea_; subst ea_)); subst ec_; clear en_)); have GB15 := Aside0.mk gb15; have GG15 := Aside0.mk HG15; clear gb15 gl15 HG15; obtain ⟨ce15, hcl15, hM15, hcc15, hfr15⟩ := Kd.R_elem HO_5.out z48 (0 : Int) p15 q15; obtain rfl := k48_openM hM15; have hx15_0 : w17.cell? ⟨go15, (0 : Int).toNat * 7, none⟩ = some (.int .i64 ((rd_T48 t317 0).f0)) := hcc15 0 _ rfl; have hx15_1 : w17.cell? ⟨go15, (0 : Int).toNat * 7 + 1, none⟩ = some (.int .i64 ((rd_T48 t317 0).f1.f0)) := hcc15 1 _ rfl; have hx15_2 : w17.cell? ⟨go15, (0 : Int).toNat * 7 + 2, none⟩ = some (.int .i64 ((rd_T48 t317 0).f1.f1)) := hcc15 2 _ rfl; have hx15_3 : w17.cell? ⟨go15, (0 : Int).toNat * 7 + 3, none⟩ = some (.int .i64 ((rd_T48 t317 0).f2)) := hcc15 3 _ rfl; have hx15_4 : w17.cell? ⟨go15, (0 : Int).toNat * 7 + 4, none⟩ = some (.int .i64 ((rd_T48 t317 0).f3)) := hcc15 4 _ rfl; have hx15_5 : w17.cell? ⟨go15, (0 : Int).toNat * 7 + 5, none⟩ = some (.int .i64 ((rd_T48 t317 0).f4)) := hcc15 5 _ rfl; have hx15_6 : w17.cell? ⟨go15, (0 : Int).toNat * 7 + 6, none⟩ = some (.bool ((rd_T48 t317 0).f5)) := hcc15 6 _ rfl; have hf15_0 : w17.frozen? ⟨go15, (0 : Int).toNat * 7, none⟩ = false := hfr15 0; have hf15_1 : w17.frozen? ⟨go15, (0 : Int).toNat * 7 + 1, none⟩ = false := hfr15 1; have hf15_2 : w17.frozen? ⟨go15, (0 : Int).toNat * 7 + 2, none⟩ = false := hfr15 2; have hf15_3 : w17.frozen? ⟨go15, (0 : Int).toNat * 7 + 3, none⟩ = false := hfr15 3; have hf15_4 : w17.frozen? ⟨go15, (0 : Int).toNat * 7 + 4, none⟩ = false := hfr15 4; have hf15_5 : w17.frozen? ⟨go15, (0 : Int).toNat * 7 + 5, none⟩ = false := hfr15 5; have hf15_6 : w17.frozen? ⟨go15, (0 : Int).toNat * 7 + 6, none⟩ = false := hfr15 6; (try clear hcl15); (try clear hcc15); (try clear hfr15); (try clear hM15); (try rw [show ((0 : Int)).toNat = 0 from rfl] at hx15_0); (try simp only [Nat.reduceMul, Nat.zero_mul, Nat.zero_add, Nat.reduceAdd] at hx15_0); (try rw [show ((0 : Int)).toNat = 0 from rfl] at hf15_0); (try simp only [Nat.reduceMul, Nat.zero_mul, Nat.zero_add, Nat.reduceAdd] at hf15_0); (try rw [show ((0 : Int)).toNat = 0 from rfl] at hx15_1); (try simp only [Nat.reduceMul, Nat.zero_mul, Nat.zero_add, Nat.reduceAdd] at hx15_1); (try rw [show ((0 : Int)).toNat = 0 from rfl] at hf15_1); (try simp only [Nat.reduceMul, Nat.zero_mul, Nat.zero_add, Nat.reduceAdd] at hf15_1); (try rw [show ((0 : Int)).toNat = 0 from rfl] at hx15_2); (try simp only [Nat.reduceMul, Nat.zero_mul, Nat.zero_add, Nat.reduceAdd] at hx15_2); (try rw [show ((0 : Int)).toNat = 0 from rfl] at hf15_2); (try simp only [Nat.reduceMul, Nat.zero_mul, Nat.zero_add, Nat.reduceAdd] at hf15_2); (try rw [show ((0 : Int)).toNat = 0 from rfl] at hx15_3); (try simp only [Nat.reduceMul, Nat.zero_mul, Nat.zero_add, Nat.reduceAdd] at hx15_3); (try rw [show ((0 : Int)).toNat = 0 from rfl] at hf15_3); (try simp only [Nat.reduceMul, Nat.zero_mul, Nat.zero_add, Nat.reduceAdd] at hf15_3); (try rw [show ((0 : Int)).toNat = 0 from rfl] at hx15_4); (try simp only [Nat.reduceMul, Nat.zero_mul, Nat.zero_add, Nat.reduceAdd] at hx15_4); (try rw [show ((0 : Int)).toNat = 0 from rfl] at hf15_4); (try simp only [Nat.reduceMul, Nat.zero_mul, Nat.zero_add, Nat.reduceAdd] at hf15_4); (try rw [show ((0 : Int)).toNat = 0 from rfl] at hx15_5); (try simp only [Nat.reduceMul, Nat.zero_mul, Nat.zero_add, Nat.reduceAdd] at hx15_5); (try rw [show ((0 : Int)).toNat = 0 from rfl] at hf15_5); (try simp only [Nat.reduceMul, Nat.zero_mul, Nat.zero_add, Nat.reduceAdd] at hf15_5); (try rw [show ((0 : Int)).toNat = 0 from rfl] at hx15_6); (try simp only [Nat.reduceMul, Nat.zero_mul, Nat.zero_add, Nat.reduceAdd] at hx15_6); (try rw [show ((0 : Int)).toNat = 0 from rfl] at hf15_6); (try simp only [Nat.reduceMul, Nat.zero_mul, Nat.zero_add, Nat.reduceAdd] at hf15_6); replace p15 := eq_true p15; replace q15 := eq_true q15; have HX18 := am (show Kd.R k48 48 w17 w.heap.size (fun _ => True) (.slice (some ⟨go15, 0, none⟩) t317.length co15) t317 from (by (with_reducible repeat (first | apply Kd.R_alloc | apply Kd.R_drewN | apply Kd.R_drew)); exact HO_5.out)); obtain ⟨ce18, hcl18, hM18, hcc18, hfr18⟩ := Kd.R_elem HX18.out z48 (0 : Int) (by omega) (by have h_ : (0 : Int) < ((t317.length : Int) : Int) := of_decide_eq_true (by first | (with_reducible assumption) | assumption); first | exact h_ | (have e_ := (Kd.R_reads' HO_5.out).1; omega) | simpa using h_); obtain rfl := k48_openM hM18; have HP18 := Kd.R_seg HX18.out (0 : Int) (by omega) (by have h_ : (0 : Int) < ((t317.length : Int) : Int) := of_decide_eq_true (by first | (with_reducible assumption) | assumption); first | exact h_ | (have e_ := (Kd.R_reads' HO_5.out).1; omega) | simpa using h_) (seg := [.int .i64 t325, .int .i64 t326, .int .i64 t327, .int .i64 t328, .int .i64 t329, .int .i64 t330, .bool t331]) (j := 0) hcl18 hcc18 (show 7 ≤ 7 from by decide) (x' := (⟨t325, (⟨t326, t327⟩ : S32), t328, t329, t330, t331⟩ : S48)) (k48_mkM _ _ _ (⟨t325, (⟨t326, t327⟩ : S32), t328, t329, t330, t331⟩ : S48) ) (fun _ hk => hk); have hx18_0 := hcc18 0 _ rfl; (try simp only [show (k48).sz = 7 from rfl, Nat.mul_one, Nat.add_zero] at hx18_0); (try rw [show ((0 : Int)).toNat = 0 from rfl] at hx18_0); (try simp only [Nat.reduceMul, Nat.zero_mul, Nat.zero_add, Nat.reduceAdd] at hx18_0); have hf18_0 := hfr18 0; (try simp only [show (k48).sz = 7 from rfl, Nat.mul_one, Nat.add_zero] at hf18_0); (try rw [show ((0 : Int)).toNat = 0 from rfl] at hf18_0); (try simp only [Nat.reduceMul, Nat.zero_mul, Nat.zero_add, Nat.reduceAdd] at hf18_0); have hx18_1 := hcc18 1 _ rfl; (try simp only [show (k48).sz = 7 from rfl, Nat.mul_one, Nat.add_zero] at hx18_1); (try rw [show ((0 : Int)).toNat = 0 from rfl] at hx18_1); (try simp only [Nat.reduceMul, Nat.zero_mul, Nat.zero_add, Nat.reduceAdd] at hx18_1); have hf18_1 := hfr18 1; (try simp only [show (k48).sz = 7 from rfl, Nat.mul_one, Nat.add_zero] at hf18_1); (try rw [show ((0 : Int)).toNat = 0 from rfl] at hf18_1); (try simp only [Nat.reduceMul, Nat.zero_mul, Nat.zero_add, Nat.reduceAdd] at hf18_1); have hx18_2 := hcc18 2 _ rfl; (try simp only [show (k48).sz = 7 from rfl, Nat.mul_one, Nat.add_zero] at hx18_2); (try rw [show ((0 : Int)).toNat = 0 from rfl] at hx18_2); (try simp only [Nat.reduceMul, Nat.zero_mul, Nat.zero_add, Nat.reduceAdd] at hx18_2); have hf18_2 := hfr18 2; (try simp only [show (k48).sz = 7 from rfl, Nat.mul_one, Nat.add_zero] at hf18_2); (try rw [show ((0 : Int)).toNat = 0 from rfl] at hf18_2); (try simp only [Nat.reduceMul, Nat.zero_mul, Nat.zero_add, Nat.reduceAdd] at hf18_2); have hx18_3 := hcc18 3 _ rfl; (try simp only [show (k48).sz = 7 from rfl, Nat.mul_one, Nat.add_zero] at hx18_3); (try rw [show ((0 : Int)).toNat = 0 from rfl] at hx18_3); (try simp only [Nat.reduceMul, Nat.zero_mul, Nat.zero_add, Nat.reduceAdd] at hx18_3); have hf18_3 := hfr18 3; (try simp only [show (k48).sz = 7 from rfl, Nat.mul_one, Nat.add_zero] at hf18_3); (try rw [show ((0 : Int)).toNat = 0 from rfl] at hf18_3); (try simp only [Nat.reduceMul, Nat.zero_mul, Nat.zero_add, Nat.reduceAdd] at hf18_3); have hx18_4 := hcc18 4 _ rfl; (try simp only [show (k48).sz = 7 from rfl, Nat.mul_one, Nat.add_zero] at hx18_4); (try rw [show ((0 : Int)).toNat = 0 from rfl] at hx18_4); (try simp only [Nat.reduceMul, Nat.zero_mul, Nat.zero_add, Nat.reduceAdd] at hx18_4); have hf18_4 := hfr18 4; (try simp only [show (k48).sz = 7 from rfl, Nat.mul_one, Nat.add_zero] at hf18_4); (try rw [show ((0 : Int)).toNat = 0 from rfl] at hf18_4); (try simp only [Nat.reduceMul, Nat.zero_mul, Nat.zero_add, Nat.reduceAdd] at hf18_4); have hx18_5 := hcc18 5 _ rfl; (try simp only [show (k48).sz = 7 from rfl, Nat.mul_one, Nat.add_zero] at hx18_5); (try rw [show ((0 : Int)).toNat = 0 from rfl] at hx18_5); (try simp only [Nat.reduceMul, Nat.zero_mul, Nat.zero_add, Nat.reduceAdd] at hx18_5); have hf18_5 := hfr18 5; (try simp only [show (k48).sz = 7 from rfl, Nat.mul_one, Nat.add_zero] at hf18_5); (try rw [show ((0 : Int)).toNat = 0 from rfl] at hf18_5); (try simp only [Nat.reduceMul, Nat.zero_mul, Nat.zero_add, Nat.reduceAdd] at hf18_5); have hx18_6 := hcc18 6 _ rfl; (try simp only [show (k48).sz = 7 from rfl, Nat.mul_one, Nat.add_zero] at hx18_6); (try rw [show ((0 : Int)).toNat = 0 from rfl] at hx18_6); (try simp only [Nat.reduceMul, Nat.zero_mul, Nat.zero_add, Nat.reduceAdd] at hx18_6); have hf18_6 := hfr18 6; (try simp only [show (k48).sz = 7 from rfl, Nat.mul_one, Nat.add_zero] at hf18_6); (try rw [show ((0 : Int)).toNat = 0 from rfl] at hf18_6); (try simp only [Nat.reduceMul, Nat.zero_mul, Nat.zero_add, Nat.reduceAdd] at hf18_6); (try clear hcl18); (try clear hcc18); (try clear hfr18); (try clear hM18)) | ((with_reducible refine gate_store (t := 48) (p := 20) rfl ?_); refine store_event (t := 48) (p := 20) (v := ?vo_w19) (w1 := (((((((w17.setCell ⟨go15, 0, none⟩ (.int .i64 t325)).setCell ⟨go15, 1, none⟩ (.int .i64 t326)).setCell ⟨go15, 2, none⟩ (.int .i64 t327)).setCell ⟨go15, 3, none⟩ (.int .i64 t328)).setCell ⟨go15, 4, none⟩ (.int .i64 t329)).setCell ⟨go15, 5, none⟩ (.int .i64 t330)).setCell ⟨go15, 6, none⟩ (.bool t331))) ?hg ?ho ?hn ?hr ?_; (case ho => rfl); (case hg => rfl); (case hn => rfl); (case hr => first | (go_simp; done) | (go_simp; rfl)); intro w19 hw; have hg : w17.grownBy w19 (some go15) := (by rw [hw]; exact HP18.2); have hp_ : Kd.R k48 48 w19 w.heap.size (fun _ => True) (.slice (some ⟨go15, 0, none⟩) t317.length co15) y334 := (by rw [hw, Ny334.out]; exact HP18.1); clear HP18; have n0_ := am (hp_); have n1_ := am (IsS144.grown (by repeat (first | (with_reducible first | exact HI316.out | apply IsS144.alloc | apply IsS144.drewN | apply IsS144.drew | apply IsS144.set_1 | apply IsS144.set_2) | exact HI316.out)) hg (IsS144.own_ne HI316.out HO_5.out (by decide))); have n2_ := am ((by rw [hw]; exact below_set (below_set (below_set (below_set (below_set (below_set (below_set (HB.out) GB15.out) GB15.out) GB15.out) GB15.out) GB15.out) GB15.out) GB15.out : Below w.heap.size w w19)); clear HO_5; clear HI316; clear HB; have HO_5 := n0_; have HI316 := n1_; have HB := n2_; clear n0_ n1_ n2_; clear hg hw hp_) | ((with_reducible refine gate_callee (f := 98) rfl ?_); refine goesL_ (some 23) rfl rfl Try.func98 (by kernel_rfl) rfl #[.pointer (some ⟨g316, 0, none⟩), .int .i64 20] rfl (by (try simp only [List.map_toArray, List.map_cons, List.map_nil]); first | done | rfl | (simp only [List.length_drop, List.length_take]; rfl)) ?_; (with_reducible refine (spec_l1Below.calls g316 t313 t332 t333 20 t335 t336 t337 w _ ?side1 ?side2 A16.out).mono ?_); (case side1 => repeat (first | (with_reducible first | exact HI316.out | apply IsS144.alloc | apply IsS144.drewN | apply IsS144.drew | apply IsS144.set_1 | apply IsS144.set_2) | exact HI316.out)); (case side2 => repeat (first | (with_reducible first | exact HB.out | apply below_alloc | apply pw_below_drewN | apply below_drew1 | refine below_set ?_ (IsS144.ge HI316.out)) | exact HB.out)); rintro e w20 ⟨rfl, hi, hb, hk⟩; refine ⟨_, rfl, ?_⟩; have n0_ := am (Kd.R_mono (Kd.R_keep (IsS144.apart (show IsS144 w _ g316 t313 t332 t333 from by repeat (first | (with_reducible first | exact HI316.out | apply IsS144.alloc | apply IsS144.drewN | apply IsS144.drew | apply IsS144.set_1 | apply IsS144.set_2) | exact HI316.out)) (by (with_reducible repeat (first | apply Kd.R_alloc | apply Kd.R_drewN | apply Kd.R_drew)); exact HO_5.out) (by decide)) hk (fun _ h => h.2)) (fun _ h => h.1)); have n1_ := am (hb); have n2_ := am (hi); clear HO_5; clear HB; clear HI316; have HO_5 := n0_; have HB := n1_; have HI316 := n2_; clear n0_ n1_ n2_; (try clear hb); (try clear hb2); (try clear hk); (try clear hi)))
          go_ret2
          exact ⟨_, by first | rfl | (simp [errW_none, errW_some] <;> rfl) | (simp [*, errW_none, errW_some] <;> rfl), by (with_reducible repeat (first | apply Kd.R_alloc | apply Kd.R_drewN | apply Kd.R_drew)); exact HO_5.out, by repeat (first | (with_reducible first | exact HB.out | apply below_alloc | apply pw_below_drewN | apply below_drew1 | refine below_set ?_ (IsS144.ge HI316.out)) | exact HB.out)⟩
        · rw [if_neg c14] at H
          exact absurd H (by simp)
      · replace c12 := Bool.eq_false_iff.mpr c12
        subst c12
        have H1 : ((spec_l1Below.f t313 x317001_3 x317002_3 20).bind fun bt338 => (some (t317, bt338.1))) = some (r1, r2) := by rw [if_neg (show ¬ (false = true) by decide)] at H; exact H
        clear H
        have H := H1
        clear H1
        replace H := Option.bind_eq_some_iff.mp H
        obtain ⟨⟨t338, t339, t340⟩, A210, H⟩ := H
        replace H : (some (t317, t338)) = some (r1, r2) := H
        have A21 := Aside0.mk A210
        clear A210
        simp only [Option.some.injEq, Prod.mk.injEq] at H
        obtain ⟨rfl, rfl⟩ := H
        go_wp2_with (first | ((with_reducible refine gate_callee (f := 98) rfl ?_); refine goesL_ (some 23) rfl rfl Try.func98 (by kernel_rfl) rfl #[.pointer (some ⟨g316, 0, none⟩), .int .i64 20] rfl (by (try simp only [List.map_toArray, List.map_cons, List.map_nil]); first | done | rfl | (simp only [List.length_drop, List.length_take]; rfl)) ?_; (with_reducible refine (spec_l1Below.calls g316 t313 x317001_3 x317002_3 20 t338 t339 t340 w _ ?side1 ?side2 A21.out).mono ?_); (case side1 => repeat (first | (with_reducible first | exact HI316.out | apply IsS144.alloc | apply IsS144.drewN | apply IsS144.drew | apply IsS144.set_1 | apply IsS144.set_2) | exact HI316.out)); (case side2 => repeat (first | (with_reducible first | exact HB.out | apply below_alloc | apply pw_below_drewN | apply below_drew1 | refine below_set ?_ (IsS144.ge HI316.out)) | exact HB.out)); rintro e w22 ⟨rfl, hi, hb, hk⟩; refine ⟨_, rfl, ?_⟩; have n0_ := am (Kd.R_mono (Kd.R_keep (IsS144.apart (show IsS144 w _ g316 t313 x317001_3 x317002_3 from by repeat (first | (with_reducible first | exact HI316.out | apply IsS144.alloc | apply IsS144.drewN | apply IsS144.drew | apply IsS144.set_1 | apply IsS144.set_2) | exact HI316.out)) (by (with_reducible repeat (first | apply Kd.R_alloc | apply Kd.R_drewN | apply Kd.R_drew)); exact HO_5.out) (by decide)) hk (fun _ h => h.2)) (fun _ h => h.1)); have n1_ := am (hb); have n2_ := am (hi); clear HO_5; clear HB; clear HI316; have HO_5 := n0_; have HB := n1_; have HI316 := n2_; clear n0_ n1_ n2_; (try clear hb); (try clear hb2); (try clear hk); (try clear hi)))
        go_ret2
        exact ⟨_, by first | rfl | (simp [errW_none, errW_some] <;> rfl) | (simp [*, errW_none, errW_some] <;> rfl), by (with_reducible repeat (first | apply Kd.R_alloc | apply Kd.R_drewN | apply Kd.R_drew)); exact HO_5.out, by repeat (first | (with_reducible first | exact HB.out | apply below_alloc | apply pw_below_drewN | apply below_drew1 | refine below_set ?_ (IsS144.ge HI316.out)) | exact HB.out)⟩

end Go.Proofs.Ytacgichgadoddaa.QI
