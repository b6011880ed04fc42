/- Plain lemmas: what a reading of an argument says of its cells, for slices of structs; under no condition but the reading itself. -/
import Derived.Test.YtepndcpncndjdaaVWords
import Derived.Deep.Slices
import Derived.Lib.SmallJoins
namespace Go.Proofs.Ytepndcpncndjdaa.Open
open Go.RowKit Go.ChangeShapes Go.WideShapes Go.Deep Go.Proofs.YtepndcpncndjdaaW.PrintWords

section
variable {H : Type} {enc : TypeId × Value → H} {P : Program} {w : World} {base : Nat} {spare : Nat → Bool} {held : Bool}

/-- A slice that reads is a row of its elements' kind, and each element has what its own reading gives. -/
theorem row_of_trod {α : Type} (z : α) {d : Kd α} {g : α → Prop} {t e : TypeId} (ht : P.underlying t = some (.slice e)) (hsz : P.cellsOf e = d.sz)
    (hop : ∀ (n : Nat) (cs : List Value) (x : DataW H × List MemPlace), DataW.trod enc P w base spare held n e cs = some x → ∃ v, d.K w v cs ∧ g v)
    {fuel : Nat} {cs : List Value} {x : DataW H × List MemPlace} (h : DataW.trod enc P w base spare held fuel t cs = some x) :
    ∃ (A : Option Addr) (c : Nat) (zs : List α), cs = [.slice A zs.length c] ∧ zs.length ≤ c ∧ zs.length ≤ 9223372036854775807 ∧ d.C w A zs.length zs ∧ ∀ y ∈ zs, g y := by
  rcases open_slice ht h with ⟨rfl, _⟩ | ⟨a, len, cap, m, n, D, Pl, rfl, hb, hl, hm, hmm, _, hi⟩
  · exact ⟨none, 0, [], rfl, Nat.le_refl _, Nat.zero_le _, (show d.C w none ([] : List α).length [] from ⟨rfl, by simp, fun h => absurd h (Nat.lt_irrefl 0)⟩), by simp⟩
  · have hlm : len ≤ m := by rw [hmm]; split <;> omega
    have hmx : len ≤ 9223372036854775807 := by unfold maxLen at hm; omega
    haveI : Inhabited α := ⟨z⟩
    obtain ⟨V, hV⟩ := choose_lt (α := α) (n := len) (p := fun i v => ∃ cs', w.cells? base (a.add (i * P.cellsOf e)) (P.cellsOf e) = some cs' ∧ d.K w v cs' ∧ g v) (fun i hi' => by
      obtain ⟨cs', h1, h2⟩ := hi i (by omega)
      obtain ⟨v, h3, h4⟩ := hop _ _ _ h2
      exact ⟨v, cs', h1, h3, h4⟩)
    have hlen : ((List.range len).map V).length = len := by simp
    refine ⟨some a, cap, (List.range len).map V, by rw [hlen], by rw [hlen]; exact hl, by rw [hlen]; exact hmx, ⟨rfl, by rw [hlen]; exact hmx, fun _ => ⟨a, rfl, fun j p hp => ?_⟩⟩, fun y hy => ?_⟩
    · have hj : j < len := by
        have := (List.getElem?_eq_some_iff.1 hp).1
        rw [hlen] at this; exact this
      have hpv : V j = p := by
        rw [List.getElem?_map, List.getElem?_range hj] at hp
        simpa using hp
      obtain ⟨cs', h1, h2, _⟩ := hV j hj
      obtain ⟨_, hcl, hat⟩ := World.cells?_some h1
      refine ⟨cs', by rw [hcl, hsz], by rw [← hpv]; exact h2, fun i u hu => ?_⟩
      have hil : i < P.cellsOf e := by have := (List.getElem?_eq_some_iff.1 hu).1; omega
      rw [← Go.Deep.add_add, ← hsz, hat i hil, hu]
    · obtain ⟨j, hj, rfl⟩ := List.mem_map.1 hy
      obtain ⟨_, _, _, h4⟩ := hV j (List.mem_range.1 hj)
      exact h4
end
end Go.Proofs.Ytepndcpncndjdaa.Open
