/- The program answers as the reference does: FnExactCompileRules, for every input, under no condition beyond those of the row itself: the row over the printed walk and the pure theorem. -/
import Derived.Test.YtepndcpncndjdaaRows
import Derived.Test.YtepndcpncndjdaaQSx41
import Derived.Test.YtepndcpncndjdaaPureFnExactCompileRules
import Derived.Test.YtepndcpncndjdaaOpen
import Derived.Test.YtepndcpncndjdaaOpenRowV
import Derived.WalkKit
import Derived.ProofKit
import Derived.OpenShut
import Derived.ShutString
import Derived.ChangeOld
import Derived.Below
import Derived.SizedLaws
import Derived.Carry
namespace Go.Proofs.Ytepndcpncndjdaa.fnExactCompileRules
open Go.ChangeShapes Go.WideShapes Go.ChangeAt Go.RowKit Go.Proofs.YtepndcpncndjdaaW.PrintWords
set_option linter.unusedVariables false
theorem own : ownKnob Try.prog.godebug = none := by kernel_rfl
theorem laidOut : laidOutB Try.prog = true := by kernel_rfl
section
variable {H : Type} {enc : TypeId × Value → H} {w : World} {base : Nat} {spare : Nat → Bool} {held : Bool}
def FitRule (y : QS.S73) : Prop := (Lit.int .i64 y.f0).wf = true ∧ (Lit.int .i64 y.f1).wf = true ∧ (Lit.int .i64 y.f2.f0).wf = true ∧ (Lit.int .i64 y.f2.f1).wf = true ∧ (Lit.int .i64 y.f3).wf = true ∧ (Lit.int .i64 y.f4).wf = true ∧ (Lit.int .i64 y.f5.f0).wf = true ∧ (Lit.int .i64 y.f5.f1).wf = true
set_option maxRecDepth 100000 in
theorem open_RowRule {fuel : Nat} {cs : List Value} {x : DataW H × List MemPlace} (h : DataW.trod enc Try.prog w base spare held fuel 48 cs = some x) :
    ∃ (a : Option Addr) (c : Nat) (zs : List QS.S73), cs = [.slice a zs.length c] ∧ zs.length ≤ c ∧ zs.length ≤ 9223372036854775807 ∧ Kd.C QS.k73 w a zs.length zs ∧ ∀ y ∈ zs, FitRule y := by
  refine Open.row_of_trod (⟨0, 0, ⟨0, 0⟩, 0, 0, ⟨0, 0⟩⟩ : QS.S73) (d := QS.k73) Try.underlying48 (by kernel_rfl) (fun n cs x hx => ?_) h
  obtain ⟨a0, a1, a2, a3, a4, a5, a6, a7, rfl, hw⟩ := Open.cells_Rule hx
  exact ⟨⟨a0, a1, ⟨a2, a3⟩, a4, a5, ⟨a6, a7⟩⟩, QS.k73_mk w ⟨a0, a1, ⟨a2, a3⟩, a4, a5, ⟨a6, a7⟩⟩, hw⟩
end
set_option maxRecDepth 100000 in
theorem lifted (os : Os) (started : os.Started) (H : Type) (enc : TypeId × Value → H) :
    ReturnsInHanded {} Try.checked os 4 .any (Rows.fnExactCompileRulesSpec.pre6 enc Try.prog Try.f4 Rows.fnExactCompileRulesRow.domain false) (Rows.fnExactCompileRulesSpec.post enc Try.prog Try.f4 false true false false) := by
  refine returnsInHanded_of_change_sized (C := Try.checked) own started (by kernel_rfl) Try.func4
    (ChangeSpec.witness6 (enc := enc) (C := Try.checked) false ⟨#[], #[.slice none 0 0], []⟩ 8 (by kernel_rfl) (by kernel_rfl) (by kernel_rfl) (by kernel_rfl)) ?_
  intro W base args ds gs before hval0 hW hcnd hsz0 _
  have hval : ∀ (j : Nat) t v, Try.f4.params[j]? = some t → args[j]? = some v → Value.okWide Try.prog W .any base t v := hval0
  have hW' := hW
  obtain ⟨p, q, hA0, hV, rfl, hfz, hnd⟩ := hW
  have hA : DataW.TrodAll enc Try.prog W 0 (fun _ => true) true Try.f4.params.toList args.toList ds p := hA0
  rw [Try.params4] at hA hval
  obtain ⟨v0, vs0, d0, ds0, p0, q0, hargs, rfl, rfl, h0, r0⟩ := trodAll_cons hA
  obtain ⟨rfl, rfl, rfl⟩ := trodAll_nil r0
  obtain rfl : args = #[v0] := by cases args; simp_all
  obtain ⟨rfl, rfl⟩ := trodVars_none hV
  have k0 := h0
  have lt0 : ∀ x ∈ p0, x.block < W.heap.size := by obtain ⟨m, hm⟩ := k0; exact DataW.trod_lt m _ _ _ hm
  obtain ⟨aa0, ll0, cc0, rfl⟩ := okWide_slice Try.underlying48 (hval 0 48 v0 rfl rfl)
  obtain ⟨fuel0, hf0⟩ := h0
  obtain ⟨A0, c0, l0, hcs0, hc0, hm0, hr0, hg0⟩ := open_RowRule hf0
  obtain ⟨rfl, rfl, rfl⟩ : aa0 = A0 ∧ ll0 = l0.length ∧ cc0 = c0 := by simpa [Value.cells] using hcs0
  obtain ⟨k, hk⟩ := Pure.FnExactCompileRules l0 hm0 hg0
  refine (QS.laws_FnExactCompileRules.calls k _ _ l0 true W hr0 hc0 hk rfl).mono fun e W' he0 => ?_
  obtain ⟨he, hd⟩ := he0
  have bel : Below W.heap.size W W' := hd
  subst he
  exact ⟨_, rfl, _, _, _, [], _, [], hW', trodAll_mk1 (shut_bool Try.underlying4 _), (trodAll_cons_mk (Below.trod laidOut (by kernel_rfl) (of_decide_eq_true (by kernel_rfl)) k0 bel lt0) trodAll_mk0), rfl, bel.frame _, fun h => by cases h⟩
theorem over : Rows.fnExactCompileRulesRow.holds Try.pinned (OpenSpec.ofChange Rows.fnExactCompileRulesSpec) :=
  OpenClaim.holds_of_wide 4 Try.f4 rfl rfl rfl rfl rfl rfl rfl ⟨rfl, rfl, rfl, rfl, rfl⟩ rfl rfl rfl rfl rfl (by kernel_rfl) Try.func4 (by kernel_rfl)
    (of_decide_eq_true (by kernel_rfl)) (by unfold Func.isWrapper; first | (rw [if_pos (by decide +kernel)]; kernel_rfl) | (rw [if_neg (by decide +kernel)]; exact ⟨rfl, rfl⟩))
    (fun os started H enc _ => lifted os started H enc)
theorem proved : Rows.FnExactCompileRulesSaid := over
#print axioms proved
end Go.Proofs.Ytepndcpncndjdaa.fnExactCompileRules
namespace Go.Proofs.Ytepndcpncndjdaa
/-- The row, under a short name, for the claim. -/
theorem fnExactCompileRules_holds : Rows.FnExactCompileRulesSaid := fnExactCompileRules.proved
end Go.Proofs.Ytepndcpncndjdaa
