/- The program answers as the reference does: FnExactFastRule, for every input, under no condition beyond those of the row itself: the row over the printed walk and the pure theorem. -/
import Derived.Test.YtbjhambdpjiibaaRows
import Derived.Test.YtbjhambdpjiibaaQGx42
import Derived.Test.YtbjhambdpjiibaaPureFnExactFastRule
import Derived.Test.YtbjhambdpjiibaaOpen
import Derived.Test.YtbjhambdpjiibaaOpenRowX
import Derived.WalkKit
import Derived.ProofKit
import Derived.OpenShut
import Derived.ShutString
import Derived.ChangeOld
import Derived.Below
import Derived.SizedLaws
import Derived.Carry
namespace Go.Proofs.Ytbjhambdpjiibaa.fnExactFastRule
open Go.ChangeShapes Go.WideShapes Go.ChangeAt Go.RowKit Go.Proofs.YtbjhambdpjiibaaW.PrintWords
set_option linter.unusedVariables false
theorem own : ownKnob Try.prog.godebug = none := by kernel_rfl
theorem laidOut : laidOutB Try.prog = true := by kernel_rfl
section
variable {H : Type} {enc : TypeId × Value → H} {w : World} {base : Nat} {spare : Nat → Bool} {held : Bool}
def FitRule (y : QG.S65) : Prop := (Lit.int .i64 y.f0).wf = true ∧ (Lit.int .i64 y.f1).wf = true ∧ (Lit.int .i64 y.f2.f0).wf = true ∧ (Lit.int .i64 y.f2.f1).wf = true ∧ (Lit.int .i64 y.f3).wf = true ∧ (Lit.int .i64 y.f4).wf = true ∧ (Lit.int .i64 y.f5.f0).wf = true ∧ (Lit.int .i64 y.f5.f1).wf = true
set_option maxRecDepth 100000 in
theorem open_RowRule {fuel : Nat} {cs : List Value} {x : DataW H × List MemPlace} (h : DataW.trod enc Try.prog w base spare held fuel 22 cs = some x) :
    ∃ (a : Option Addr) (c : Nat) (zs : List QG.S65), cs = [.slice a zs.length c] ∧ zs.length ≤ c ∧ zs.length ≤ 9223372036854775807 ∧ Kd.C QG.k65 w a zs.length zs ∧ ∀ y ∈ zs, FitRule y := by
  refine Open.row_of_trod (⟨0, 0, ⟨0, 0⟩, 0, 0, ⟨0, 0⟩⟩ : QG.S65) (d := QG.k65) Try.underlying22 (by kernel_rfl) (fun n cs x hx => ?_) h
  obtain ⟨a0, a1, a2, a3, a4, a5, a6, a7, rfl, hw⟩ := Open.cells_Rule hx
  exact ⟨⟨a0, a1, ⟨a2, a3⟩, a4, a5, ⟨a6, a7⟩⟩, QG.k65_mk w ⟨a0, a1, ⟨a2, a3⟩, a4, a5, ⟨a6, a7⟩⟩, hw⟩
set_option maxRecDepth 100000 in
theorem open_RowRowRule {fuel : Nat} {cs : List Value} {x : DataW H × List MemPlace} (h : DataW.trod enc Try.prog w base spare held fuel 35 cs = some x) :
    ∃ (a : Option Addr) (c : Nat) (zs : List (List QG.S65)), cs = [.slice a zs.length c] ∧ zs.length ≤ c ∧ zs.length ≤ 9223372036854775807 ∧ Kd.C (Kd.slice 65 QG.k65) w a zs.length zs ∧ ∀ y ∈ zs, (y.length ≤ 9223372036854775807 ∧ ∀ z ∈ y, FitRule z) := by
  refine Open.row_of_trod ([] : (List QG.S65)) (d := (Kd.slice 65 QG.k65)) (g := fun y => (y.length ≤ 9223372036854775807 ∧ ∀ z ∈ y, FitRule z)) Try.underlying35 (by kernel_rfl) (fun n cs x hx => ?_) h
  obtain ⟨a, c, zs, rfl, h1, h2, h3, h4⟩ := open_RowRule hx
  exact ⟨zs, ⟨a, c, rfl, h1, h3⟩, h2, h4⟩
set_option maxRecDepth 100000 in
theorem mix_Table {r : Reach} {b0 : Nat} {v : Value} {d : DataW H} {p : List MemPlace} (hv : Value.okWide Try.prog w r b0 37 v) (h : DataW.Trod enc Try.prog w base spare held 37 v d p) :
    ∃ (A0 : Option Addr) (c0 : Nat) (l0 : List QG.S65) (A1 : Option Addr) (c1 : Nat) (l1 : List (List QG.S65)), v = .agg #[.slice A0 l0.length c0, .slice A1 l1.length c1] ∧ l0.length ≤ c0 ∧ l0.length ≤ 9223372036854775807 ∧ Kd.C QG.k65 w A0 l0.length l0 ∧ (∀ y ∈ l0, FitRule y) ∧ l1.length ≤ c1 ∧ l1.length ≤ 9223372036854775807 ∧ Kd.C (Kd.slice 65 QG.k65) w A1 l1.length l1 ∧ (∀ y ∈ l1, (y.length ≤ 9223372036854775807 ∧ ∀ z ∈ y, FitRule z)) := by
  obtain ⟨cs, rfl, _⟩ := okWide_struct Try.underlying37 hv
  obtain ⟨fuel, hf0⟩ := h
  obtain ⟨l⟩ := cs
  have hf1 : DataW.trod enc Try.prog w base spare held fuel 37 l = some (d, p) := hf0
  obtain ⟨xs, n, _, _, hlen, hxl, hf⟩ := DataW.trod_struct Try.underlying37 hf1
  have hl : l.length = 2 := hlen.trans (by kernel_rfl)
  obtain ⟨b0, b1, rfl⟩ := Open.list2 hl
  have e35 : Try.prog.cellsOf 35 = 1 := by kernel_rfl
  have e22 : Try.prog.cellsOf 22 = 1 := by kernel_rfl
  have g0 : DataW.trod enc Try.prog w base spare held n 22 [b0] = some (xs[0]'(by rw [hxl]; decide)) := by
    have g := (hf 0 _ rfl).trans (List.getElem?_eq_getElem (by rw [hxl]; decide))
    simpa [e22, e35] using g
  obtain ⟨A0, c0, l0, h0, q0, m0, r0, f0⟩ := open_RowRule g0
  have g1 : DataW.trod enc Try.prog w base spare held n 35 [b1] = some (xs[1]'(by rw [hxl]; decide)) := by
    have g := (hf 1 _ rfl).trans (List.getElem?_eq_getElem (by rw [hxl]; decide))
    simpa [e22, e35] using g
  obtain ⟨A1, c1, l1, h1, q1, m1, r1, f1⟩ := open_RowRowRule g1
  simp only [List.cons.injEq, and_true] at h0 h1
  obtain rfl := h0
  obtain rfl := h1
  exact ⟨A0, c0, l0, A1, c1, l1, rfl, q0, m0, r0, f0, q1, m1, r1, f1⟩
end
set_option maxRecDepth 100000 in
theorem lifted (os : Os) (started : os.Started) (H : Type) (enc : TypeId × Value → H) :
    ReturnsInHanded {} Try.checked os 5 .any (Rows.fnExactFastRuleSpec.pre6 enc Try.prog Try.f5 Rows.fnExactFastRuleRow.domain false) (Rows.fnExactFastRuleSpec.post enc Try.prog Try.f5 false true false false) := by
  refine returnsInHanded_of_change_sized (C := Try.checked) own started (by kernel_rfl) Try.func5
    (ChangeSpec.witness6 (enc := enc) (C := Try.checked) false ⟨#[], #[.agg #[.slice none 0 0, .slice none 0 0], .agg #[.int .i64 0, .int .i64 0, .int .i64 0]], []⟩ 8 (by kernel_rfl) (by kernel_rfl) (by kernel_rfl) (by kernel_rfl)) ?_
  intro W base args ds gs before hval0 hW hcnd hsz0 _
  have hval : ∀ (j : Nat) t v, Try.f5.params[j]? = some t → args[j]? = some v → Value.okWide Try.prog W .any base t v := hval0
  have hW' := hW
  obtain ⟨p, q, hA0, hV, rfl, hfz, hnd⟩ := hW
  have hA : DataW.TrodAll enc Try.prog W 0 (fun _ => true) true Try.f5.params.toList args.toList ds p := hA0
  rw [Try.params5] at hA hval
  obtain ⟨v0, vs0, d0, ds0, p0, q0, hargs, rfl, rfl, h0, r0⟩ := trodAll_cons hA
  obtain ⟨v1, vs1, d1, ds1, p1, q1, rfl, rfl, rfl, h1, r1⟩ := trodAll_cons r0
  obtain ⟨rfl, rfl, rfl⟩ := trodAll_nil r1
  obtain rfl : args = #[v0, v1] := by cases args; simp_all
  obtain ⟨rfl, rfl⟩ := trodVars_none hV
  have k0 := h0
  have lt0 : ∀ x ∈ p0, x.block < W.heap.size := by obtain ⟨m, hm⟩ := k0; exact DataW.trod_lt m _ _ _ hm
  obtain ⟨A0_0, c0_0, l0_0, A0_1, c0_1, l0_1, rfl, hc0_0, hm0_0, hr0_0, hg0_0, hc0_1, hm0_1, hr0_1, hg0_1⟩ := mix_Table (hval 0 37 v0 rfl rfl) h0
  have k1 := h1
  have lt1 : ∀ x ∈ p1, x.block < W.heap.size := by obtain ⟨m, hm⟩ := k1; exact DataW.trod_lt m _ _ _ hm
  obtain ⟨a1_0, a1_1, a1_2, rfl, w1_0, w1_1, w1_2⟩ := Open.agg_Request (hval 1 41 v1 rfl rfl) h1
  obtain ⟨k, hk⟩ := Pure.FnExactFastRule l0_0 l0_1 a1_0 a1_1 a1_2 hm0_0 hg0_0 hm0_1 hg0_1 w1_0 w1_1 w1_2
  refine (QG.laws_FnExactFastRule.calls k _ _ l0_0 _ _ l0_1 a1_0 a1_1 a1_2 true W hr0_0 hc0_0 hr0_1 hc0_1 hk rfl).mono fun e W' he0 => ?_
  obtain ⟨he, hd⟩ := he0
  have bel : Below W.heap.size W W' := hd
  subst he
  exact ⟨_, rfl, _, _, _, [], _, [], hW', trodAll_mk1 (shut_bool Try.underlying4 _), (trodAll_cons_mk (Below.trod laidOut (by kernel_rfl) (of_decide_eq_true (by kernel_rfl)) k0 bel lt0) (trodAll_cons_mk (Below.trod laidOut (by kernel_rfl) (of_decide_eq_true (by kernel_rfl)) k1 bel lt1) trodAll_mk0)), rfl, bel.frame _, fun h => by cases h⟩
theorem over : Rows.fnExactFastRuleRow.holds Try.pinned (OpenSpec.ofChange Rows.fnExactFastRuleSpec) :=
  OpenClaim.holds_of_wide 5 Try.f5 rfl rfl rfl rfl rfl rfl rfl ⟨rfl, rfl, rfl, rfl, rfl⟩ rfl rfl rfl rfl rfl (by kernel_rfl) Try.func5 (by kernel_rfl)
    (of_decide_eq_true (by kernel_rfl)) (by unfold Func.isWrapper; first | (rw [if_pos (by decide +kernel)]; kernel_rfl) | (rw [if_neg (by decide +kernel)]; exact ⟨rfl, rfl⟩))
    (fun os started H enc _ => lifted os started H enc)
theorem proved : Rows.FnExactFastRuleSaid := over
#print axioms proved
end Go.Proofs.Ytbjhambdpjiibaa.fnExactFastRule
namespace Go.Proofs.Ytbjhambdpjiibaa
/-- The row, under a short name, for the claim. -/
theorem fnExactFastRule_holds : Rows.FnExactFastRuleSaid := fnExactFastRule.proved
end Go.Proofs.Ytbjhambdpjiibaa
