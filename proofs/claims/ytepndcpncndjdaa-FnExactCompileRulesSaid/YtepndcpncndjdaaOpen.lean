/- Plain lemmas: what a reading of an argument says of its cells, for the structs of this seat; under no condition but the reading itself. -/
import Derived.Test.YtepndcpncndjdaaProg
import Derived.Lib.SmallJoins
import Derived.KernelRfl
namespace Go.Proofs.Ytepndcpncndjdaa.Open
open Go.RowKit Go.ChangeShapes Go.WideShapes Go.Deep
set_option linter.unusedVariables false
theorem list2 {α : Type} {l : List α} (h : l.length = 2) : ∃ c0 c1, l = [c0, c1] := by
  match l, h with
  | [c0, c1], _ => exact ⟨c0, c1, rfl⟩
theorem list8 {α : Type} {l : List α} (h : l.length = 8) : ∃ c0 c1 c2 c3 c4 c5 c6 c7, l = [c0, c1, c2, c3, c4, c5, c6, c7] := by
  match l, h with
  | [c0, c1, c2, c3, c4, c5, c6, c7], _ => exact ⟨c0, c1, c2, c3, c4, c5, c6, c7, rfl⟩
section
variable {H : Type} {enc : TypeId × Value → H} {w : World} {base : Nat} {spare : Nat → Bool} {held : Bool}
set_option maxRecDepth 100000 in
theorem cells_Pattern {fuel : Nat} {cs : List Value} {x : DataW H × List MemPlace} (h : DataW.trod enc Try.prog w base spare held fuel 70 cs = some x) :
    ∃ (a0 : Int) (a1 : Int), cs = [.int .i64 a0, .int .i64 a1] ∧ (Lit.int .i64 a0).wf = true ∧ (Lit.int .i64 a1).wf = true := by
  obtain ⟨xs, n, _, _, hlen, hxl, hf⟩ := DataW.trod_struct Try.underlying70 h
  have hl : cs.length = 2 := hlen.trans (by kernel_rfl)
  have e3 : Try.prog.cellsOf 3 = 1 := by kernel_rfl
  obtain ⟨c0, c1, rfl⟩ := list2 hl
  have g0 : DataW.trod enc Try.prog w base spare held n 3 [c0] = some (xs[0]'(by rw [hxl]; decide)) := by
    have g := (hf 0 _ rfl).trans (List.getElem?_eq_getElem (by rw [hxl]; decide))
    simpa [e3] using g
  obtain ⟨a0, h0, _, w0⟩ := DataW.trod_int Try.underlying3 g0
  have g1 : DataW.trod enc Try.prog w base spare held n 3 [c1] = some (xs[1]'(by rw [hxl]; decide)) := by
    have g := (hf 1 _ rfl).trans (List.getElem?_eq_getElem (by rw [hxl]; decide))
    simpa [e3] using g
  obtain ⟨a1, h1, _, w1⟩ := DataW.trod_int Try.underlying3 g1
  simp only [List.cons.injEq, and_true] at h0 h1
  obtain rfl := h0
  obtain rfl := h1
  exact ⟨a0, a1, rfl, w0, w1⟩
set_option maxRecDepth 100000 in
theorem agg_Pattern {r : Reach} {b0 : Nat} {v : Value} {d : DataW H} {p : List MemPlace} (hv : Value.okWide Try.prog w r b0 70 v) (h : DataW.Trod enc Try.prog w base spare held 70 v d p) :
    ∃ (a0 : Int) (a1 : Int), v = .agg #[.int .i64 a0, .int .i64 a1] ∧ (Lit.int .i64 a0).wf = true ∧ (Lit.int .i64 a1).wf = true := by
  obtain ⟨cs, rfl, _⟩ := okWide_struct Try.underlying70 hv
  obtain ⟨fuel, hf⟩ := h
  obtain ⟨a0, a1, hc, hw⟩ := cells_Pattern hf
  obtain ⟨l⟩ := cs
  have hc2 : l = _ := hc
  exact ⟨a0, a1, by rw [hc2], hw⟩

set_option maxRecDepth 100000 in
theorem cells_Site {fuel : Nat} {cs : List Value} {x : DataW H × List MemPlace} (h : DataW.trod enc Try.prog w base spare held fuel 71 cs = some x) :
    ∃ (a0 : Int) (a1 : Int), cs = [.int .i64 a0, .int .i64 a1] ∧ (Lit.int .i64 a0).wf = true ∧ (Lit.int .i64 a1).wf = true := by
  obtain ⟨xs, n, _, _, hlen, hxl, hf⟩ := DataW.trod_struct Try.underlying71 h
  have hl : cs.length = 2 := hlen.trans (by kernel_rfl)
  have e3 : Try.prog.cellsOf 3 = 1 := by kernel_rfl
  obtain ⟨c0, c1, rfl⟩ := list2 hl
  have g0 : DataW.trod enc Try.prog w base spare held n 3 [c0] = some (xs[0]'(by rw [hxl]; decide)) := by
    have g := (hf 0 _ rfl).trans (List.getElem?_eq_getElem (by rw [hxl]; decide))
    simpa [e3] using g
  obtain ⟨a0, h0, _, w0⟩ := DataW.trod_int Try.underlying3 g0
  have g1 : DataW.trod enc Try.prog w base spare held n 3 [c1] = some (xs[1]'(by rw [hxl]; decide)) := by
    have g := (hf 1 _ rfl).trans (List.getElem?_eq_getElem (by rw [hxl]; decide))
    simpa [e3] using g
  obtain ⟨a1, h1, _, w1⟩ := DataW.trod_int Try.underlying3 g1
  simp only [List.cons.injEq, and_true] at h0 h1
  obtain rfl := h0
  obtain rfl := h1
  exact ⟨a0, a1, rfl, w0, w1⟩
set_option maxRecDepth 100000 in
theorem agg_Site {r : Reach} {b0 : Nat} {v : Value} {d : DataW H} {p : List MemPlace} (hv : Value.okWide Try.prog w r b0 71 v) (h : DataW.Trod enc Try.prog w base spare held 71 v d p) :
    ∃ (a0 : Int) (a1 : Int), v = .agg #[.int .i64 a0, .int .i64 a1] ∧ (Lit.int .i64 a0).wf = true ∧ (Lit.int .i64 a1).wf = true := by
  obtain ⟨cs, rfl, _⟩ := okWide_struct Try.underlying71 hv
  obtain ⟨fuel, hf⟩ := h
  obtain ⟨a0, a1, hc, hw⟩ := cells_Site hf
  obtain ⟨l⟩ := cs
  have hc2 : l = _ := hc
  exact ⟨a0, a1, by rw [hc2], hw⟩

set_option maxRecDepth 100000 in
theorem cells_Rule {fuel : Nat} {cs : List Value} {x : DataW H × List MemPlace} (h : DataW.trod enc Try.prog w base spare held fuel 73 cs = some x) :
    ∃ (a0 : Int) (a1 : Int) (a2 : Int) (a3 : Int) (a4 : Int) (a5 : Int) (a6 : Int) (a7 : Int), cs = [.int .i64 a0, .int .i64 a1, .int .i64 a2, .int .i64 a3, .int .i64 a4, .int .i64 a5, .int .i64 a6, .int .i64 a7] ∧ (Lit.int .i64 a0).wf = true ∧ (Lit.int .i64 a1).wf = true ∧ (Lit.int .i64 a2).wf = true ∧ (Lit.int .i64 a3).wf = true ∧ (Lit.int .i64 a4).wf = true ∧ (Lit.int .i64 a5).wf = true ∧ (Lit.int .i64 a6).wf = true ∧ (Lit.int .i64 a7).wf = true := by
  obtain ⟨xs, n, _, _, hlen, hxl, hf⟩ := DataW.trod_struct Try.underlying73 h
  have hl : cs.length = 8 := hlen.trans (by kernel_rfl)
  have e3 : Try.prog.cellsOf 3 = 1 := by kernel_rfl
  have e70 : Try.prog.cellsOf 70 = 2 := by kernel_rfl
  have e71 : Try.prog.cellsOf 71 = 2 := by kernel_rfl
  obtain ⟨c0, c1, c2, c3, c4, c5, c6, c7, rfl⟩ := list8 hl
  have g0 : DataW.trod enc Try.prog w base spare held n 3 [c0] = some (xs[0]'(by rw [hxl]; decide)) := by
    have g := (hf 0 _ rfl).trans (List.getElem?_eq_getElem (by rw [hxl]; decide))
    simpa [e3, e70, e71] using g
  obtain ⟨a0, h0, _, w0⟩ := DataW.trod_int Try.underlying3 g0
  have g1 : DataW.trod enc Try.prog w base spare held n 3 [c1] = some (xs[1]'(by rw [hxl]; decide)) := by
    have g := (hf 1 _ rfl).trans (List.getElem?_eq_getElem (by rw [hxl]; decide))
    simpa [e3, e70, e71] using g
  obtain ⟨a1, h1, _, w1⟩ := DataW.trod_int Try.underlying3 g1
  have g2 : DataW.trod enc Try.prog w base spare held n 70 [c2, c3] = some (xs[2]'(by rw [hxl]; decide)) := by
    have g := (hf 2 _ rfl).trans (List.getElem?_eq_getElem (by rw [hxl]; decide))
    simpa [e3, e70, e71] using g
  obtain ⟨a2, a3, h2, w2, w3⟩ := cells_Pattern g2
  have g3 : DataW.trod enc Try.prog w base spare held n 3 [c4] = some (xs[3]'(by rw [hxl]; decide)) := by
    have g := (hf 3 _ rfl).trans (List.getElem?_eq_getElem (by rw [hxl]; decide))
    simpa [e3, e70, e71] using g
  obtain ⟨a4, h3, _, w4⟩ := DataW.trod_int Try.underlying3 g3
  have g4 : DataW.trod enc Try.prog w base spare held n 3 [c5] = some (xs[4]'(by rw [hxl]; decide)) := by
    have g := (hf 4 _ rfl).trans (List.getElem?_eq_getElem (by rw [hxl]; decide))
    simpa [e3, e70, e71] using g
  obtain ⟨a5, h4, _, w5⟩ := DataW.trod_int Try.underlying3 g4
  have g5 : DataW.trod enc Try.prog w base spare held n 71 [c6, c7] = some (xs[5]'(by rw [hxl]; decide)) := by
    have g := (hf 5 _ rfl).trans (List.getElem?_eq_getElem (by rw [hxl]; decide))
    simpa [e3, e70, e71] using g
  obtain ⟨a6, a7, h5, w6, w7⟩ := cells_Site g5
  simp only [List.cons.injEq, and_true] at h0 h1 h2 h3 h4 h5
  obtain rfl := h0
  obtain rfl := h1
  obtain ⟨rfl, rfl⟩ := h2
  obtain rfl := h3
  obtain rfl := h4
  obtain ⟨rfl, rfl⟩ := h5
  exact ⟨a0, a1, a2, a3, a4, a5, a6, a7, rfl, w0, w1, w2, w3, w4, w5, w6, w7⟩
set_option maxRecDepth 100000 in
theorem agg_Rule {r : Reach} {b0 : Nat} {v : Value} {d : DataW H} {p : List MemPlace} (hv : Value.okWide Try.prog w r b0 73 v) (h : DataW.Trod enc Try.prog w base spare held 73 v d p) :
    ∃ (a0 : Int) (a1 : Int) (a2 : Int) (a3 : Int) (a4 : Int) (a5 : Int) (a6 : Int) (a7 : Int), v = .agg #[.int .i64 a0, .int .i64 a1, .int .i64 a2, .int .i64 a3, .int .i64 a4, .int .i64 a5, .int .i64 a6, .int .i64 a7] ∧ (Lit.int .i64 a0).wf = true ∧ (Lit.int .i64 a1).wf = true ∧ (Lit.int .i64 a2).wf = true ∧ (Lit.int .i64 a3).wf = true ∧ (Lit.int .i64 a4).wf = true ∧ (Lit.int .i64 a5).wf = true ∧ (Lit.int .i64 a6).wf = true ∧ (Lit.int .i64 a7).wf = true := by
  obtain ⟨cs, rfl, _⟩ := okWide_struct Try.underlying73 hv
  obtain ⟨fuel, hf⟩ := h
  obtain ⟨a0, a1, a2, a3, a4, a5, a6, a7, hc, hw⟩ := cells_Rule hf
  obtain ⟨l⟩ := cs
  have hc2 : l = _ := hc
  exact ⟨a0, a1, a2, a3, a4, a5, a6, a7, by rw [hc2], hw⟩

end
end Go.Proofs.Ytepndcpncndjdaa.Open
