/- impl.compareRules meets what the sort asks of a comparison (CmpLays), and its order is a strict weak one. -/
import Derived.Test.YtepndcpncndjdaaQSx16
import Derived.Shelf.SlSortCmp.KitK
import Derived.Test.YtepndcpncndjdaaQSx0
import Derived.Test.YtepndcpncndjdaaQSxM3
namespace Go.Proofs.Ytepndcpncndjdaa.QS
open Go.RowKit Go.Proofs.YtepndcpncndjdaaW.PrintWords Go.Proofs.YtepndcpncndjdaaW.PrintLast Go.Proofs.YtepndcpncndjdaaW.PrintMore Go.Proofs.Ytepndcpncndjdaa.Short
attribute [local go_sem] max2_int min2_int max_two min_two max_three min_three max_four min_four   -- for this text's walks alone
set_option linter.unusedVariables false
set_option linter.unusedSimpArgs false


/-! ### the comparison as a plain function -/
def cmpI (a b : Int) : Int := if a < b then -1 else if a > b then 1 else 0
def orI (a b : Int) : Int := if a = 0 then b else a
def cfR (x y : S37) : Int := orI (cmpI y.f1 x.f1) (orI (cmpI x.f4 y.f4) (orI (cmpI x.f0 y.f0) (orI (cmpI x.f5.f0 y.f5.f0) (cmpI x.f5.f1 y.f5.f1))))
theorem cmpI_eq (a b : Int) : cmp_Compare_int.f a b = some (cmpI a b) := by
  unfold cmp_Compare_int.f cmp_isNaN_int.f cmpI
  simp
  split <;> try rfl
  split <;> rfl
theorem or5 (a b c d e : Int) : cmp_Or_int.f 7 [a, b, c, d, e] = some (orI a (orI b (orI c (orI d e)))) := by
  have h1 : wrap64 (0 + 1) = 1 := by unfold wrap64; omega
  have h2 : wrap64 (1 + 1) = 2 := by unfold wrap64; omega
  have h3 : wrap64 (2 + 1) = 3 := by unfold wrap64; omega
  have h4 : wrap64 (3 + 1) = 4 := by unfold wrap64; omega
  have h5 : wrap64 (4 + 1) = 5 := by unfold wrap64; omega
  unfold cmp_Or_int.f
  simp only [cmp_Or_int.l0, h1, h2, h3, h4, h5]
  simp only [orI]
  by_cases ha : a = 0 <;> by_cases hb : b = 0 <;> by_cases hc : c = 0 <;> by_cases hd : d = 0 <;> by_cases he : e = 0 <;> simp [ha, hb, hc, hd, he, rd]
theorem cfR_eq (x y : S37) : impl_compareRules.f 7 x.f0 x.f1 x.f2.f0 x.f2.f1 x.f3 x.f4 x.f5.f0 x.f5.f1 y.f0 y.f1 y.f2.f0 y.f2.f1 y.f3 y.f4 y.f5.f0 y.f5.f1 = some (cfR x y) := by
  unfold impl_compareRules.f cfR
  simp only [cmpI_eq, Option.bind_some, or5]
def Cmp (c : S37 → S37 → Int) : Prop := (∀ x y, c x y < 0 ↔ 0 < c y x) ∧ (∀ x y z, c x y ≤ 0 → c y z ≤ 0 → c x z ≤ 0)
theorem Cmp.by_ (f : S37 → Int) : Cmp fun x y => cmpI (f x) (f y) := by
  refine ⟨fun x y => ?_, fun x y z => ?_⟩
  · show cmpI (f x) (f y) < 0 ↔ 0 < cmpI (f y) (f x)
    unfold cmpI
    repeat' split
    all_goals omega
  · show cmpI (f x) (f y) ≤ 0 → cmpI (f y) (f z) ≤ 0 → cmpI (f x) (f z) ≤ 0
    unfold cmpI
    repeat' split
    all_goals omega
theorem Cmp.flip {c : S37 → S37 → Int} (h : Cmp c) : Cmp fun x y => c y x := by
  refine ⟨fun x y => h.1 y x, fun x y z h1 h2 => h.2 z y x h2 h1⟩
theorem Cmp.or_ {c d : S37 → S37 → Int} (h : Cmp c) (k : Cmp d) : Cmp fun x y => orI (c x y) (d x y) := by
  refine ⟨fun x y => ?_, fun x y z h1 h2 => ?_⟩
  · have a1 := h.1 x y
    have a2 := h.1 y x
    have a3 := k.1 x y
    show orI (c x y) (d x y) < 0 ↔ 0 < orI (c y x) (d y x)
    unfold orI
    repeat' split
    all_goals omega
  · have a1 := h.1 x y
    have a2 := h.1 y x
    have a3 := h.1 y z
    have a4 := h.1 z y
    have a5 := h.1 x z
    have a6 := h.1 z x
    have b1 := h.2 x y z
    have b2 := h.2 y z x
    have b3 := h.2 z x y
    have b4 := k.2 x y z
    have b5 := h.2 z y x
    replace h1 : orI (c x y) (d x y) ≤ 0 := h1
    replace h2 : orI (c y z) (d y z) ≤ 0 := h2
    show orI (c x z) (d x z) ≤ 0
    unfold orI at h1 h2 ⊢
    by_cases e1 : c x y = 0
    · rw [if_pos e1] at h1
      by_cases e2 : c y z = 0
      · rw [if_pos e2] at h2
        rw [if_pos (by omega)]
        omega
      · rw [if_neg e2] at h2
        rw [if_neg (by omega)]
        omega
    · rw [if_neg e1] at h1
      by_cases e2 : c y z = 0
      · rw [if_pos e2] at h2
        rw [if_neg (by omega)]
        omega
      · rw [if_neg e2] at h2
        rw [if_neg (by omega)]
        omega
theorem cfR_cmp : Cmp cfR :=
  ((Cmp.by_ (·.f1)).flip).or_ ((Cmp.by_ (·.f4)).or_ ((Cmp.by_ (·.f0)).or_ ((Cmp.by_ (·.f5.f0)).or_ (Cmp.by_ (·.f5.f1)))))
theorem cfR_swo : Go.Sort.SWO (Go.Proofs.ltOf cfR) := by
  obtain ⟨h1, h2⟩ := cfR_cmp
  refine ⟨fun x => decide_eq_false (by have := h1 x x; omega), fun x y z a b => decide_eq_true ?_, fun x y z a b => decide_eq_false ?_⟩
  · have a := of_decide_eq_true a
    have b := of_decide_eq_true b
    have := h1 x y
    have := h1 y x
    have := h1 x z
    have := h1 z x
    have := h1 y z
    have := h2 x y z
    have := h2 y z x
    omega
  · have a := of_decide_eq_false a
    have b := of_decide_eq_false b
    have := h1 y x
    have := h1 z y
    have := h1 x z
    have := h1 x y
    have := h1 y z
    have := h2 z y x
    omega

end Go.Proofs.Ytepndcpncndjdaa.QS
