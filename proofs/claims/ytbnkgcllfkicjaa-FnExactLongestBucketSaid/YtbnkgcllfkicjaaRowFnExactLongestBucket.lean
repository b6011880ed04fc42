/- The program answers as the reference does: FnExactLongestBucket, for every input, under no condition beyond those of the row itself: the row over the printed walk and the pure theorem. -/
import Derived.Test.YtbnkgcllfkicjaaRows
import Derived.Test.YtbnkgcllfkicjaaQFnExactLongestBucketx3
import Derived.Test.YtbnkgcllfkicjaaPureFnExactLongestBucket
import Derived.Test.YtbnkgcllfkicjaaOpen
import Derived.Test.YtbnkgcllfkicjaaOpenRow
import Derived.WalkKit
import Derived.ProofKit
import Derived.OpenShut
import Derived.ShutString
import Derived.ChangeOld
import Derived.Below
import Derived.SizedLaws
import Derived.Carry
namespace Go.Proofs.Ytbnkgcllfkicjaa.fnExactLongestBucket
open Go.ChangeShapes Go.WideShapes Go.ChangeAt Go.RowKit Go.Proofs.YtbnkgcllfkicjaaW.PrintWords
set_option linter.unusedVariables false
theorem own : ownKnob Try.prog.godebug = none := by kernel_rfl
theorem laidOut : laidOutB Try.prog = true := by kernel_rfl
section
variable {H : Type} {enc : TypeId × Value → H} {w : World} {base : Nat} {spare : Nat → Bool} {held : Bool}
def FitRule (y : QFnExactLongestBucket.S80) : Prop := (Lit.int .i64 y.f0).wf = true ∧ (Lit.int .i64 y.f1).wf = true ∧ (Lit.int .i64 y.f2.f0).wf = true ∧ (Lit.int .i64 y.f2.f1).wf = true ∧ (Lit.int .i64 y.f3).wf = true ∧ (Lit.int .i64 y.f4).wf = true ∧ (Lit.int .i64 y.f5.f0).wf = true ∧ (Lit.int .i64 y.f5.f1).wf = true
set_option maxRecDepth 100000 in
theorem open_RowRule {fuel : Nat} {cs : List Value} {x : DataW H × List MemPlace} (h : DataW.trod enc Try.prog w base spare held fuel 33 cs = some x) :
    ∃ (a : Option Addr) (c : Nat) (zs : List QFnExactLongestBucket.S80), cs = [.slice a zs.length c] ∧ zs.length ≤ c ∧ zs.length ≤ 9223372036854775807 ∧ Kd.C QFnExactLongestBucket.k80 w a zs.length zs ∧ ∀ y ∈ zs, FitRule y := by
  refine Open.row_of_trod (⟨0, 0, ⟨0, 0⟩, 0, 0, ⟨0, 0⟩⟩ : QFnExactLongestBucket.S80) (d := QFnExactLongestBucket.k80) Try.underlying33 (by kernel_rfl) (fun n cs x hx => ?_) h
  obtain ⟨a0, a1, a2, a3, a4, a5, a6, a7, rfl, hw⟩ := Open.cells_Rule hx
  exact ⟨⟨a0, a1, ⟨a2, a3⟩, a4, a5, ⟨a6, a7⟩⟩, QFnExactLongestBucket.k80_mk w ⟨a0, a1, ⟨a2, a3⟩, a4, a5, ⟨a6, a7⟩⟩, hw⟩
set_option maxRecDepth 100000 in
theorem open_RowRowRule {fuel : Nat} {cs : List Value} {x : DataW H × List MemPlace} (h : DataW.trod enc Try.prog w base spare held fuel 54 cs = some x) :
    ∃ (a : Option Addr) (c : Nat) (zs : List (List QFnExactLongestBucket.S80)), cs = [.slice a zs.length c] ∧ zs.length ≤ c ∧ zs.length ≤ 9223372036854775807 ∧ Kd.C (Kd.slice 80 QFnExactLongestBucket.k80) w a zs.length zs ∧ ∀ y ∈ zs, (y.length ≤ 9223372036854775807 ∧ ∀ z ∈ y, FitRule z) := by
  refine Open.row_of_trod ([] : (List QFnExactLongestBucket.S80)) (d := (Kd.slice 80 QFnExactLongestBucket.k80)) (g := fun y => (y.length ≤ 9223372036854775807 ∧ ∀ z ∈ y, FitRule z)) Try.underlying54 (by kernel_rfl) (fun n cs x hx => ?_) h
  obtain ⟨a, c, zs, rfl, h1, h2, h3, h4⟩ := open_RowRule hx
  exact ⟨zs, ⟨a, c, rfl, h1, h3⟩, h2, h4⟩
set_option maxRecDepth 100000 in
theorem mix_Table {r : Reach} {b0 : Nat} {v : Value} {d : DataW H} {p : List MemPlace} (hv : Value.okWide Try.prog w r b0 56 v) (h : DataW.Trod enc Try.prog w base spare held 56 v d p) :
    ∃ (A0 : Option Addr) (c0 : Nat) (l0 : List QFnExactLongestBucket.S80) (A1 : Option Addr) (c1 : Nat) (l1 : List (List QFnExactLongestBucket.S80)), v = .agg #[.slice A0 l0.length c0, .slice A1 l1.length c1] ∧ l0.length ≤ c0 ∧ l0.length ≤ 9223372036854775807 ∧ Kd.C QFnExactLongestBucket.k80 w A0 l0.length l0 ∧ (∀ y ∈ l0, FitRule y) ∧ l1.length ≤ c1 ∧ l1.length ≤ 9223372036854775807 ∧ Kd.C (Kd.slice 80 QFnExactLongestBucket.k80) w A1 l1.length l1 ∧ (∀ y ∈ l1, (y.length ≤ 9223372036854775807 ∧ ∀ z ∈ y, FitRule z)) := by
  obtain ⟨cs, rfl, _⟩ := okWide_struct Try.underlying56 hv
  obtain ⟨fuel, hf0⟩ := h
  obtain ⟨l⟩ := cs
  have hf1 : DataW.trod enc Try.prog w base spare held fuel 56 l = some (d, p) := hf0
  obtain ⟨xs, n, _, _, hlen, hxl, hf⟩ := DataW.trod_struct Try.underlying56 hf1
  have hl : l.length = 2 := hlen.trans (by kernel_rfl)
  obtain ⟨b0, b1, rfl⟩ := Open.list2 hl
  have e54 : Try.prog.cellsOf 54 = 1 := by kernel_rfl
  have e33 : Try.prog.cellsOf 33 = 1 := by kernel_rfl
  have g0 : DataW.trod enc Try.prog w base spare held n 33 [b0] = some (xs[0]'(by rw [hxl]; decide)) := by
    have g := (hf 0 _ rfl).trans (List.getElem?_eq_getElem (by rw [hxl]; decide))
    simpa [e33, e54] using g
  obtain ⟨A0, c0, l0, h0, q0, m0, r0, f0⟩ := open_RowRule g0
  have g1 : DataW.trod enc Try.prog w base spare held n 54 [b1] = some (xs[1]'(by rw [hxl]; decide)) := by
    have g := (hf 1 _ rfl).trans (List.getElem?_eq_getElem (by rw [hxl]; decide))
    simpa [e33, e54] using g
  obtain ⟨A1, c1, l1, h1, q1, m1, r1, f1⟩ := open_RowRowRule g1
  simp only [List.cons.injEq, and_true] at h0 h1
  obtain rfl := h0
  obtain rfl := h1
  exact ⟨A0, c0, l0, A1, c1, l1, rfl, q0, m0, r0, f0, q1, m1, r1, f1⟩
end
set_option maxRecDepth 100000 in
theorem lifted (os : Os) (started : os.Started) (H : Type) (enc : TypeId × Value → H) :
    ReturnsInHanded {} Try.checked os 14 .any (Rows.fnExactLongestBucketSpec.pre6 enc Try.prog Try.f14 Rows.fnExactLongestBucketRow.domain false) (Rows.fnExactLongestBucketSpec.post enc Try.prog Try.f14 false true false false) := by
  refine returnsInHanded_of_change_sized (C := Try.checked) own started (by kernel_rfl) Try.func14
    (ChangeSpec.witness6 (enc := enc) (C := Try.checked) false ⟨#[], #[.agg #[.slice none 0 0, .slice none 0 0]], []⟩ 8 (by kernel_rfl) (by kernel_rfl) (by kernel_rfl) (by kernel_rfl)) ?_
  intro W base args ds gs before hval0 hW hcnd hsz0 _
  have hval : ∀ (j : Nat) t v, Try.f14.params[j]? = some t → args[j]? = some v → Value.okWide Try.prog W .any base t v := hval0
  have hW' := hW
  obtain ⟨p, q, hA0, hV, rfl, hfz, hnd⟩ := hW
  have hA : DataW.TrodAll enc Try.prog W 0 (fun _ => true) true Try.f14.params.toList args.toList ds p := hA0
  rw [Try.params14] at hA hval
  obtain ⟨v0, vs0, d0, ds0, p0, q0, hargs, rfl, rfl, h0, r0⟩ := trodAll_cons hA
  obtain ⟨rfl, rfl, rfl⟩ := trodAll_nil r0
  obtain rfl : args = #[v0] := by cases args; simp_all
  obtain ⟨rfl, rfl⟩ := trodVars_none hV
  have k0 := h0
  have lt0 : ∀ x ∈ p0, x.block < W.heap.size := by obtain ⟨m, hm⟩ := k0; exact DataW.trod_lt m _ _ _ hm
  obtain ⟨A0_0, c0_0, l0_0, A0_1, c0_1, l0_1, rfl, hc0_0, hm0_0, hr0_0, hg0_0, hc0_1, hm0_1, hr0_1, hg0_1⟩ := mix_Table (hval 0 56 v0 rfl rfl) h0
  obtain ⟨k, hk⟩ := Pure.FnExactLongestBucket l0_0 l0_1 hm0_0 hg0_0 hm0_1 hg0_1
  refine (QFnExactLongestBucket.laws_FnExactLongestBucket.calls k _ _ l0_0 _ _ l0_1 true W hr0_0 hc0_0 hr0_1 hc0_1 hk rfl).mono fun e W' he0 => ?_
  obtain ⟨he, hd⟩ := he0
  have bel : Below W.heap.size W W' := hd
  subst he
  exact ⟨_, rfl, _, _, _, [], _, [], hW', trodAll_mk1 (shut_bool Try.underlying4 _), (trodAll_cons_mk (Below.trod laidOut (by kernel_rfl) (of_decide_eq_true (by kernel_rfl)) k0 bel lt0) trodAll_mk0), rfl, bel.frame _, fun h => by cases h⟩
theorem over : Rows.fnExactLongestBucketRow.holds Try.pinned (OpenSpec.ofChange Rows.fnExactLongestBucketSpec) :=
  OpenClaim.holds_of_wide 14 Try.f14 rfl rfl rfl rfl rfl rfl rfl ⟨rfl, rfl, rfl, rfl, rfl⟩ rfl rfl rfl rfl rfl (by kernel_rfl) Try.func14 (by kernel_rfl)
    (of_decide_eq_true (by kernel_rfl)) (by unfold Func.isWrapper; first | (rw [if_pos (by decide +kernel)]; kernel_rfl) | (rw [if_neg (by decide +kernel)]; exact ⟨rfl, rfl⟩))
    (fun os started H enc _ => lifted os started H enc)
theorem proved : Rows.FnExactLongestBucketSaid := over
#print axioms proved
end Go.Proofs.Ytbnkgcllfkicjaa.fnExactLongestBucket
namespace Go.Proofs.Ytbnkgcllfkicjaa
/-- The row, under a short name, for the claim. -/
theorem fnExactLongestBucket_holds : Rows.FnExactLongestBucketSaid := fnExactLongestBucket.proved
end Go.Proofs.Ytbnkgcllfkicjaa
