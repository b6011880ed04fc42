/- The program answers as the reference does: FnExactEqualOutcomes, for every input, under no condition beyond those of the row itself: the row over the printed walk and the pure theorem. -/
import Derived.Test.YtgcoplikbfdkoaaRows
import Derived.Test.YtgcoplikbfdkoaaQFnExactEqualOutcomesx4
import Derived.Test.YtgcoplikbfdkoaaPureFnExactEqualOutcomes
import Derived.Test.YtgcoplikbfdkoaaOpen
import Derived.Test.YtgcoplikbfdkoaaOpenRow
import Derived.WalkKit
import Derived.ProofKit
import Derived.OpenShut
import Derived.ShutString
import Derived.ChangeOld
import Derived.Below
import Derived.SizedLaws
import Derived.Carry
namespace Go.Proofs.Ytgcoplikbfdkoaa.fnExactEqualOutcomes
open Go.ChangeShapes Go.WideShapes Go.ChangeAt Go.RowKit Go.Proofs.YtgcoplikbfdkoaaW.PrintWords
set_option linter.unusedVariables false
theorem own : ownKnob Try.prog.godebug = none := by kernel_rfl
theorem laidOut : laidOutB Try.prog = true := by kernel_rfl
section
variable {H : Type} {enc : TypeId × Value → H} {w : World} {base : Nat} {spare : Nat → Bool} {held : Bool}
def FitSite (y : QFnExactEqualOutcomes.S25) : Prop := (Lit.int .i64 y.f0).wf = true ∧ (Lit.int .i64 y.f1).wf = true
set_option maxRecDepth 100000 in
theorem open_RowSite {fuel : Nat} {cs : List Value} {x : DataW H × List MemPlace} (h : DataW.trod enc Try.prog w base spare held fuel 73 cs = some x) :
    ∃ (a : Option Addr) (c : Nat) (zs : List QFnExactEqualOutcomes.S25), cs = [.slice a zs.length c] ∧ zs.length ≤ c ∧ zs.length ≤ 9223372036854775807 ∧ Kd.C QFnExactEqualOutcomes.k25 w a zs.length zs ∧ ∀ y ∈ zs, FitSite y := by
  refine Open.row_of_trod (⟨0, 0⟩ : QFnExactEqualOutcomes.S25) (d := QFnExactEqualOutcomes.k25) Try.underlying73 (by kernel_rfl) (fun n cs x hx => ?_) h
  obtain ⟨a0, a1, rfl, hw⟩ := Open.cells_Site hx
  exact ⟨⟨a0, a1⟩, QFnExactEqualOutcomes.k25_mk w ⟨a0, a1⟩, hw⟩
set_option maxRecDepth 100000 in
theorem mix_Outcome {r : Reach} {b0 : Nat} {v : Value} {d : DataW H} {p : List MemPlace} (hv : Value.okWide Try.prog w r b0 75 v) (h : DataW.Trod enc Try.prog w base spare held 75 v d p) :
    ∃ (a0 : Int) (a1 : Int) (a2 : Int) (A3 : Option Addr) (c3 : Nat) (l3 : List QFnExactEqualOutcomes.S25), v = .agg #[.int .i64 a0, .int .i64 a1, .int .i64 a2, .slice A3 l3.length c3] ∧ (Lit.int .i64 a0).wf = true ∧ (Lit.int .i64 a1).wf = true ∧ (Lit.int .i64 a2).wf = true ∧ l3.length ≤ c3 ∧ l3.length ≤ 9223372036854775807 ∧ Kd.C QFnExactEqualOutcomes.k25 w A3 l3.length l3 ∧ ∀ y ∈ l3, FitSite y := by
  obtain ⟨cs, rfl, _⟩ := okWide_struct Try.underlying75 hv
  obtain ⟨fuel, hf0⟩ := h
  obtain ⟨l⟩ := cs
  have hf1 : DataW.trod enc Try.prog w base spare held fuel 75 l = some (d, p) := hf0
  obtain ⟨xs, n, _, _, hlen, hxl, hf⟩ := DataW.trod_struct Try.underlying75 hf1
  have hl : l.length = 4 := hlen.trans (by kernel_rfl)
  obtain ⟨b0, b1, b2, b3, rfl⟩ := Open.list4 hl
  have e73 : Try.prog.cellsOf 73 = 1 := by kernel_rfl
  have e3 : Try.prog.cellsOf 3 = 1 := by kernel_rfl
  have e25 : Try.prog.cellsOf 25 = 2 := by kernel_rfl
  have g0 : DataW.trod enc Try.prog w base spare held n 3 [b0] = some (xs[0]'(by rw [hxl]; decide)) := by
    have g := (hf 0 _ rfl).trans (List.getElem?_eq_getElem (by rw [hxl]; decide))
    simpa [e3, e25, e73] using g
  obtain ⟨a0, h0, _, w0⟩ := DataW.trod_int Try.underlying3 g0
  have g1 : DataW.trod enc Try.prog w base spare held n 25 [b1, b2] = some (xs[1]'(by rw [hxl]; decide)) := by
    have g := (hf 1 _ rfl).trans (List.getElem?_eq_getElem (by rw [hxl]; decide))
    simpa [e3, e25, e73] using g
  obtain ⟨a1, a2, h1, w1, w2⟩ := Open.cells_Site g1
  have g2 : DataW.trod enc Try.prog w base spare held n 73 [b3] = some (xs[2]'(by rw [hxl]; decide)) := by
    have g := (hf 2 _ rfl).trans (List.getElem?_eq_getElem (by rw [hxl]; decide))
    simpa [e3, e25, e73] using g
  obtain ⟨A3, c3, l3, h2, q3, m3, r3, f3⟩ := open_RowSite g2
  simp only [List.cons.injEq, and_true] at h0 h1 h2
  obtain rfl := h0
  obtain ⟨rfl, rfl⟩ := h1
  obtain rfl := h2
  exact ⟨a0, a1, a2, A3, c3, l3, rfl, w0, w1, w2, q3, m3, r3, f3⟩
end
set_option maxRecDepth 100000 in
theorem lifted (os : Os) (started : os.Started) (H : Type) (enc : TypeId × Value → H) :
    ReturnsInHanded {} Try.checked os 14 .any (Rows.fnExactEqualOutcomesSpec.pre6 enc Try.prog Try.f14 Rows.fnExactEqualOutcomesRow.domain false) (Rows.fnExactEqualOutcomesSpec.post enc Try.prog Try.f14 false true false false) := by
  refine returnsInHanded_of_change_sized (C := Try.checked) own started (by kernel_rfl) Try.func14
    (ChangeSpec.witness6 (enc := enc) (C := Try.checked) false ⟨#[], #[.agg #[.int .i64 0, .int .i64 0, .int .i64 0, .slice none 0 0], .agg #[.int .i64 0, .int .i64 0, .int .i64 0, .slice none 0 0]], []⟩ 8 (by kernel_rfl) (by kernel_rfl) (by kernel_rfl) (by kernel_rfl)) ?_
  intro W base args ds gs before hval0 hW hcnd hsz0 _
  have hval : ∀ (j : Nat) t v, Try.f14.params[j]? = some t → args[j]? = some v → Value.okWide Try.prog W .any base t v := hval0
  have hW' := hW
  obtain ⟨p, q, hA0, hV, rfl, hfz, hnd⟩ := hW
  have hA : DataW.TrodAll enc Try.prog W 0 (fun _ => true) true Try.f14.params.toList args.toList ds p := hA0
  rw [Try.params14] at hA hval
  obtain ⟨v0, vs0, d0, ds0, p0, q0, hargs, rfl, rfl, h0, r0⟩ := trodAll_cons hA
  obtain ⟨v1, vs1, d1, ds1, p1, q1, rfl, rfl, rfl, h1, r1⟩ := trodAll_cons r0
  obtain ⟨rfl, rfl, rfl⟩ := trodAll_nil r1
  obtain rfl : args = #[v0, v1] := by cases args; simp_all
  obtain ⟨rfl, rfl⟩ := trodVars_none hV
  have k0 := h0
  have lt0 : ∀ x ∈ p0, x.block < W.heap.size := by obtain ⟨m, hm⟩ := k0; exact DataW.trod_lt m _ _ _ hm
  obtain ⟨a0_0, a0_1, a0_2, A0_3, c0_3, l0_3, rfl, w0_0, w0_1, w0_2, hc0_3, hm0_3, hr0_3, hg0_3⟩ := mix_Outcome (hval 0 75 v0 rfl rfl) h0
  have k1 := h1
  have lt1 : ∀ x ∈ p1, x.block < W.heap.size := by obtain ⟨m, hm⟩ := k1; exact DataW.trod_lt m _ _ _ hm
  obtain ⟨a1_0, a1_1, a1_2, A1_3, c1_3, l1_3, rfl, w1_0, w1_1, w1_2, hc1_3, hm1_3, hr1_3, hg1_3⟩ := mix_Outcome (hval 1 75 v1 rfl rfl) h1
  obtain ⟨k, hk⟩ := Pure.FnExactEqualOutcomes a0_0 a0_1 a0_2 l0_3 a1_0 a1_1 a1_2 l1_3 w0_0 w0_1 w0_2 hm0_3 hg0_3 w1_0 w1_1 w1_2 hm1_3 hg1_3
  refine (QFnExactEqualOutcomes.laws_FnExactEqualOutcomes.calls k a0_0 a0_1 a0_2 _ _ l0_3 a1_0 a1_1 a1_2 _ _ l1_3 true W hr0_3 hc0_3 hr1_3 hc1_3 hk rfl).mono fun e W' he0 => ?_
  obtain ⟨he, hd⟩ := he0
  have bel : Below W.heap.size W W' := hd
  subst he
  exact ⟨_, rfl, _, _, _, [], _, [], hW', trodAll_mk1 (shut_bool Try.underlying4 _), (trodAll_cons_mk (Below.trod laidOut (by kernel_rfl) (of_decide_eq_true (by kernel_rfl)) k0 bel lt0) (trodAll_cons_mk (Below.trod laidOut (by kernel_rfl) (of_decide_eq_true (by kernel_rfl)) k1 bel lt1) trodAll_mk0)), rfl, bel.frame _, fun h => by cases h⟩
theorem over : Rows.fnExactEqualOutcomesRow.holds Try.pinned (OpenSpec.ofChange Rows.fnExactEqualOutcomesSpec) :=
  OpenClaim.holds_of_wide 14 Try.f14 rfl rfl rfl rfl rfl rfl rfl ⟨rfl, rfl, rfl, rfl, rfl⟩ rfl rfl rfl rfl rfl (by kernel_rfl) Try.func14 (by kernel_rfl)
    (of_decide_eq_true (by kernel_rfl)) (by unfold Func.isWrapper; first | (rw [if_pos (by decide +kernel)]; kernel_rfl) | (rw [if_neg (by decide +kernel)]; exact ⟨rfl, rfl⟩))
    (fun os started H enc _ => lifted os started H enc)
theorem proved : Rows.FnExactEqualOutcomesSaid := over
#print axioms proved
end Go.Proofs.Ytgcoplikbfdkoaa.fnExactEqualOutcomes
namespace Go.Proofs.Ytgcoplikbfdkoaa
/-- The row, under a short name, for the claim. -/
theorem fnExactEqualOutcomes_holds : Rows.FnExactEqualOutcomesSaid := fnExactEqualOutcomes.proved
end Go.Proofs.Ytgcoplikbfdkoaa
