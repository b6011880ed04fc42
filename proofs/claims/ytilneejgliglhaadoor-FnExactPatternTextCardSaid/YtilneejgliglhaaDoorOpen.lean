/- Plain lemmas: what a reading of an argument says of its cells, for the structs of this seat; under no condition but the reading itself. -/
import Derived.Test.YtilneejgliglhaaDoorProg
import Derived.Lib.SmallJoins
import Derived.KernelRfl
namespace Go.Proofs.YtilneejgliglhaaDoor.Open
open Go.RowKit Go.ChangeShapes Go.WideShapes Go.Deep
set_option linter.unusedVariables false
theorem list2 {α : Type} {l : List α} (h : l.length = 2) : ∃ c0 c1, l = [c0, c1] := by
  match l, h with
  | [c0, c1], _ => exact ⟨c0, c1, rfl⟩
section
variable {H : Type} {enc : TypeId × Value → H} {w : World} {base : Nat} {spare : Nat → Bool} {held : Bool}
set_option maxRecDepth 100000 in
theorem cells_Pattern {fuel : Nat} {cs : List Value} {x : DataW H × List MemPlace} (h : DataW.trod enc Tryd.prog w base spare held fuel 23 cs = some x) :
    ∃ (a0 : Int) (a1 : Int), cs = [.int .i64 a0, .int .i64 a1] ∧ (Lit.int .i64 a0).wf = true ∧ (Lit.int .i64 a1).wf = true := by
  obtain ⟨xs, n, _, _, hlen, hxl, hf⟩ := DataW.trod_struct Tryd.underlying23 h
  have hl : cs.length = 2 := hlen.trans (by kernel_rfl)
  have e3 : Tryd.prog.cellsOf 3 = 1 := by kernel_rfl
  obtain ⟨c0, c1, rfl⟩ := list2 hl
  have g0 : DataW.trod enc Tryd.prog w base spare held n 3 [c0] = some (xs[0]'(by rw [hxl]; decide)) := by
    have g := (hf 0 _ rfl).trans (List.getElem?_eq_getElem (by rw [hxl]; decide))
    simpa [e3] using g
  obtain ⟨a0, h0, _, w0⟩ := DataW.trod_int Tryd.underlying3 g0
  have g1 : DataW.trod enc Tryd.prog w base spare held n 3 [c1] = some (xs[1]'(by rw [hxl]; decide)) := by
    have g := (hf 1 _ rfl).trans (List.getElem?_eq_getElem (by rw [hxl]; decide))
    simpa [e3] using g
  obtain ⟨a1, h1, _, w1⟩ := DataW.trod_int Tryd.underlying3 g1
  simp only [List.cons.injEq, and_true] at h0 h1
  obtain rfl := h0
  obtain rfl := h1
  exact ⟨a0, a1, rfl, w0, w1⟩
set_option maxRecDepth 100000 in
theorem agg_Pattern {r : Reach} {b0 : Nat} {v : Value} {d : DataW H} {p : List MemPlace} (hv : Value.okWide Tryd.prog w r b0 23 v) (h : DataW.Trod enc Tryd.prog w base spare held 23 v d p) :
    ∃ (a0 : Int) (a1 : Int), v = .agg #[.int .i64 a0, .int .i64 a1] ∧ (Lit.int .i64 a0).wf = true ∧ (Lit.int .i64 a1).wf = true := by
  obtain ⟨cs, rfl, _⟩ := okWide_struct Tryd.underlying23 hv
  obtain ⟨fuel, hf⟩ := h
  obtain ⟨a0, a1, hc, hw⟩ := cells_Pattern hf
  obtain ⟨l⟩ := cs
  have hc2 : l = _ := hc
  exact ⟨a0, a1, by rw [hc2], hw⟩

end
end Go.Proofs.YtilneejgliglhaaDoor.Open
