/- The printed function of the law FnExactLabelText answers true, for all arguments, under no condition but that each whole number is one of its kind and that each slice has a length that fits. -/
import Derived.Test.YtilneejgliglhaaDoorQTx34
namespace Go.Proofs.YtilneejgliglhaaDoor.Pure
open Go.RowKit Go.Proofs.YtilneejgliglhaaDoor.QT Go.Proofs.YtilneejgliglhaaDoorW.PrintWords Go.Proofs.YtilneejgliglhaaDoorW.PrintLast
set_option linter.unusedVariables false
set_option linter.unusedSimpArgs false
theorem wr {i : Int} (h0 : -9223372036854775808 ≤ i) (h1 : i ≤ 9223372036854775807) : wrap64 i = i := by unfold wrap64; omega
theorem beq_dec (a b : Int) : (a == b) = decide (a = b) := by by_cases h : a = b <;> simp [h]
theorem and_if (p : Prop) [Decidable p] (c : Bool) : (if p then some c else some false) = some (decide p && c) := by
  by_cases h : p <;> simp [h]
theorem or_if (p : Prop) [Decidable p] (c : Bool) : (if p then some true else some c) = some (decide p || c) := by
  by_cases h : p <;> simp [h]
def inR (a b c : Int) : Bool := decide (b ≤ a) && decide (a ≤ c)
def isPat (o s : Int) : Bool := inR o 0 9 && inR s (-1) 9
def isSit (o s : Int) : Bool := inR o 1 9 && inR s 0 9
def mtch (po ps o s : Int) : Bool := isPat po ps && (isSit o s && ((decide (po = 0) || decide (po = o)) && (decide (ps = -1) || decide (ps = s))))
def narr (po ps qo qs : Int) : Bool := isPat po ps && (isPat qo qs && ((decide (qo = 0) || decide (po = qo)) && (decide (qs = -1) || decide (ps = qs))))
def isGra (e po ps k f u : Int) : Bool := inR e 1 5 && (isPat po ps && (inR k 1 4 && (decide (0 ≤ f) && (decide (f ≤ u) && decide (u ≤ 10000)))))
def isLim (e po ps k : Int) : Bool := inR e 0 5 && (isPat po ps && inR k 0 4)
def covr (e po ps k f u : Int) (cl : Bool) (ext o s kind tick : Int) (ck : Bool) : Bool :=
  isGra e po ps k f u && (decide (e = ext) && (decide (k = kind) && (mtch po ps o s && (inR tick f u && (ck || !cl)))))
def isRul (e p po ps s a o b : Int) : Bool :=
  inR e 1 5 && (inR p 1 9 && (isPat po ps && (inR s 0 4 && ((decide (a = 1) || decide (a = 2)) && (decide (o = 0) && decide (b = 0)) || decide (a = 3) && isSit o b))))
def isReq (o s t : Int) : Bool := isSit o s && inR t 1 4
def appl (e p po ps s a o b qo qs qt : Int) : Bool := isRul e p po ps s a o b && (isReq qo qs qt && (mtch po ps qo qs && (decide (s = 0) || decide (s = qt))))
def isLen (e po ps k f u : Int) (cl : Bool) : Bool := isGra e po ps k f u && (decide (po ≠ 0) && (decide (ps ≠ -1) && ((decide (k = 1) || decide (k = 2)) && (decide (u = f + 5) && !cl))))
def isLab (x : Int) : Bool := inR x 0 1022 && decide (Int.tmod x 2 = 0)
def befo (ae ap aa ao ab be bp ba bo bb : Int) : Bool :=
  if ap = bp then (if aa = ba then (if ae = be then (if ao = bo then decide (ab < bb) else decide (ao < bo)) else decide (ae < be)) else decide (aa < ba)) else decide (bp < ap)
def within (e po ps k f u : Int) (cl : Bool) (e' po' ps' k' f' u' : Int) (cl' : Bool) : Bool :=
  isGra e po ps k f u && (isGra e' po' ps' k' f' u' && (decide (e = e') && (decide (k = k') && (narr po ps po' ps' && (decide (f' ≤ f) && (decide (u ≤ u') && (cl || !cl')))))))
theorem take_set1 {α : Type} (s : List α) (i : Nat) (v : α) (h : i < s.length) : (s.set i v).take (i + 1) = s.take i ++ [v] := by
  rw [List.take_succ_eq_append_getElem (by simpa using h), List.take_set, List.set_eq_of_length_le (by simp; omega)]
  simp
theorem loop_up {σ ρ : Type} (g : Nat → σ → Int → Option ρ) (n : Nat) (out : σ → Nat → ρ) (I : σ → Nat → Prop) (hn : n ≤ 9223372036854775806)
    (hstep : ∀ (k : Nat) (s : σ) (i : Nat), i < n → I s i → (∀ s', I s' (i + 1) → g k s' (wrap64 ((i : Int) + 1)) = some (out s' (i + 1))) → g (k + 1) s (i : Int) = some (out s i))
    (hend : ∀ (k : Nat) (s : σ), I s n → g (k + 1) s (n : Int) = some (out s n)) :
    ∀ (d k : Nat) (s : σ) (i : Nat), i + d = n → d < k → I s i → g k s (i : Int) = some (out s i) := by
  intro d
  induction d with
  | zero =>
    intro k s i hi hk hI
    obtain ⟨k, rfl⟩ : ∃ m, k = m + 1 := ⟨k - 1, by omega⟩
    obtain rfl : i = n := by omega
    exact hend k s hI
  | succ d ih =>
    intro k s i hi hk hI
    obtain ⟨k, rfl⟩ : ∃ m, k = m + 1 := ⟨k - 1, by omega⟩
    refine hstep k s i (by omega) hI fun s' hI' => ?_
    have := ih k s' (i + 1) (by omega) (by omega) hI'
    rw [wr (by omega) (by omega)]
    exact_mod_cast this
theorem loop_from {σ ρ : Type} {g : Nat → σ → Int → Option ρ} {n : Nat} {out : σ → Nat → ρ} {I : σ → Nat → Prop} (h : ∀ (d k : Nat) (s : σ) (i : Nat), i + d = n → d < k → I s i → g k s (i : Int) = some (out s i))
    (k : Nat) (hk : n < k) (s : σ) (hI : I s 0) : g k s 0 = some (out s 0) := by
  have := h n k s 0 (by omega) hk hI
  exact_mod_cast this
theorem drop_at {α : Type} (xs : List α) (i : Nat) (h : i < xs.length) : xs.drop i = xs[i] :: xs.drop (i + 1) := List.drop_eq_getElem_cons h

theorem nlt {n : Nat} : ¬ (n : Int) < (n : Int) := by omega
/-- where a list is copied element by element into a made one -/
theorem rd_at {α : Type} (z : α) (xs : List α) (i : Nat) (h : i < xs.length) : xs.getD (i : Int).toNat z = xs[i] := by simp [h]

theorem loop_upm {σ ρ : Type} (m : Nat) (g : Nat → σ → Int → Option ρ) (n : Nat) (out : σ → Nat → ρ) (I : σ → Nat → Prop) (hn : n ≤ 9223372036854775806)
    (hstep : ∀ (k : Nat) (s : σ) (i : Nat), m ≤ k → i < n → I s i → (∀ s', I s' (i + 1) → g k s' (wrap64 ((i : Int) + 1)) = some (out s' (i + 1))) → g (k + 1) s (i : Int) = some (out s i))
    (hend : ∀ (k : Nat) (s : σ), m ≤ k → I s n → g (k + 1) s (n : Int) = some (out s n)) :
    ∀ (d k : Nat) (s : σ) (i : Nat), i + d = n → d + m < k → I s i → g k s (i : Int) = some (out s i) := by
  intro d
  induction d with
  | zero =>
    intro k s i hi hk hI
    obtain ⟨k, rfl⟩ : ∃ m, k = m + 1 := ⟨k - 1, by omega⟩
    obtain rfl : i = n := by omega
    exact hend k s (by omega) hI
  | succ d ih =>
    intro k s i hi hk hI
    obtain ⟨k, rfl⟩ : ∃ m, k = m + 1 := ⟨k - 1, by omega⟩
    refine hstep k s i (by omega) (by omega) hI fun s' hI' => ?_
    have := ih k s' (i + 1) (by omega) (by omega) hI'
    rw [wr (by omega) (by omega)]
    exact_mod_cast this
theorem loop_fromm {σ ρ : Type} {m : Nat} {g : Nat → σ → Int → Option ρ} {n : Nat} {out : σ → Nat → ρ} {I : σ → Nat → Prop} (h : ∀ (d k : Nat) (s : σ) (i : Nat), i + d = n → d + m < k → I s i → g k s (i : Int) = some (out s i))
    (k : Nat) (hk : n + m < k) (s : σ) (hI : I s 0) : g k s 0 = some (out s 0) := by
  have := h n k s 0 (by omega) hk hI
  exact_mod_cast this
theorem loop_run {σ ρ : Type} (m : Nat) (g : Nat → σ → Int → Option ρ) (n : Nat) (out : σ → Nat → ρ) (I : σ → Nat → Prop) (hn : n ≤ 9223372036854775806)
    (hstep : ∀ (k : Nat) (s : σ) (i : Nat), m ≤ k → i < n → I s i → (∀ s', I s' (i + 1) → g k s' (wrap64 ((i : Int) + 1)) = some (out s' (i + 1))) → g (k + 1) s (i : Int) = some (out s i))
    (hend : ∀ (k : Nat) (s : σ), m ≤ k → I s n → g (k + 1) s (n : Int) = some (out s n)) (k : Nat) (hk : n + m < k) (s : σ) (hI : I s 0) : g k s 0 = some (out s 0) :=
  loop_fromm (loop_upm m g n out I hn hstep hend) k hk s hI
theorem if_and2 {α : Type} (a : Bool) (p : Prop) [Decidable p] (x y : α) : (if a = true then (if p then x else y) else y) = if (a && decide p) = true then x else y := by
  cases a <;> by_cases h : p <;> simp [h]

theorem if_nand {α : Type} (a b : Bool) (x y : α) : (if a = true then (if b = true then y else x) else x) = if (!(a && b)) = true then x else y := by
  cases a <;> cases b <;> simp

def W9 (a b c d e f g h i : Bool) : Nat := 2 * a.toNat + (4 * b.toNat + (8 * c.toNat + (16 * d.toNat + (32 * e.toNat + (64 * f.toNat + (128 * g.toNat + (256 * h.toNat + 512 * i.toNat)))))))
theorem W9_bit : ∀ (a b c d e f g h i : Bool), W9 a b c d e f g h i < 1024 ∧ (W9 a b c d e f g h i).testBit 0 = false ∧ (W9 a b c d e f g h i).testBit 1 = a ∧ (W9 a b c d e f g h i).testBit 2 = b ∧ (W9 a b c d e f g h i).testBit 3 = c ∧ (W9 a b c d e f g h i).testBit 4 = d
    ∧ (W9 a b c d e f g h i).testBit 5 = e ∧ (W9 a b c d e f g h i).testBit 6 = f ∧ (W9 a b c d e f g h i).testBit 7 = g ∧ (W9 a b c d e f g h i).testBit 8 = h ∧ (W9 a b c d e f g h i).testBit 9 = i := by decide +kernel
def V (f : Nat → Bool) : Nat := W9 (f 1) (f 2) (f 3) (f 4) (f 5) (f 6) (f 7) (f 8) (f 9)
theorem V_lt (f : Nat → Bool) : V f < 1024 := (W9_bit _ _ _ _ _ _ _ _ _).1
theorem V_congr (f g : Nat → Bool) (h : ∀ o, 1 ≤ o → o ≤ 9 → f o = g o) : V f = V g := by
  unfold V
  rw [h 1 (by omega) (by omega), h 2 (by omega) (by omega), h 3 (by omega) (by omega), h 4 (by omega) (by omega), h 5 (by omega) (by omega), h 6 (by omega) (by omega), h 7 (by omega) (by omega), h 8 (by omega) (by omega), h 9 (by omega) (by omega)]
theorem V_or (f g : Nat → Bool) : V f ||| V g = V (fun j => f j || g j) := by
  apply Nat.eq_of_testBit_eq
  intro o
  rw [Nat.testBit_or]
  by_cases ho : o < 10
  · obtain ⟨-, F0, F1, F2, F3, F4, F5, F6, F7, F8, F9⟩ := W9_bit (f 1) (f 2) (f 3) (f 4) (f 5) (f 6) (f 7) (f 8) (f 9)
    obtain ⟨-, G0, G1, G2, G3, G4, G5, G6, G7, G8, G9⟩ := W9_bit (g 1) (g 2) (g 3) (g 4) (g 5) (g 6) (g 7) (g 8) (g 9)
    obtain ⟨-, H0, H1, H2, H3, H4, H5, H6, H7, H8, H9⟩ := W9_bit (f 1 || g 1) (f 2 || g 2) (f 3 || g 3) (f 4 || g 4) (f 5 || g 5) (f 6 || g 6) (f 7 || g 7) (f 8 || g 8) (f 9 || g 9)
    have : o = 0 ∨ o = 1 ∨ o = 2 ∨ o = 3 ∨ o = 4 ∨ o = 5 ∨ o = 6 ∨ o = 7 ∨ o = 8 ∨ o = 9 := by omega
    unfold V
    rcases this with rfl | rfl | rfl | rfl | rfl | rfl | rfl | rfl | rfl | rfl
    · rw [F0, G0, H0]; rfl
    · rw [F1, G1, H1]
    · rw [F2, G2, H2]
    · rw [F3, G3, H3]
    · rw [F4, G4, H4]
    · rw [F5, G5, H5]
    · rw [F6, G6, H6]
    · rw [F7, G7, H7]
    · rw [F8, G8, H8]
    · rw [F9, G9, H9]
  · have big : ∀ f, (V f).testBit o = false := fun f => Nat.testBit_lt_two_pow (Nat.lt_of_lt_of_le (V_lt f) (Nat.le_trans (by decide : 1024 ≤ 2 ^ 10) (Nat.pow_le_pow_right (by decide) (by omega))))
    rw [big, big, big]; rfl
theorem V_one : ∀ x : Fin 10, 1 ≤ x.val → 2 ^ x.val = V (fun j => decide (j = x.val)) := by decide +kernel
theorem or_nat (a b : Nat) (ha : a < 1024) (hb : b < 1024) : Go.bits .or .i64 (a : Int) (b : Int) = ((a ||| b : Nat) : Int) :=
  (bits_nat .i64 10 (by decide) (fun n h0 h1 => by rw [IntKind.wrap_i64]; omega) a b (by simpa using ha) (by simpa using hb)).2
theorem lab_fin (x : Int) (h : isLab x = true) : ∃ i : Fin 512, x = 2 * ((i.val : Nat) : Int) := by
  unfold isLab inR at h
  simp only [Bool.and_eq_true, decide_eq_true_eq] at h
  obtain ⟨⟨h0, h1⟩, h2⟩ := h
  refine ⟨⟨(x / 2).toNat, by omega⟩, ?_⟩
  have : Int.tmod x 2 = x % 2 := Int.tmod_eq_emod_of_nonneg h0
  simp only
  omega

theorem spec_in (a b c : Int) : spec_l1In.f a b c = some (inR a b c) := by
  unfold spec_l1In.f inR; exact and_if _ _

theorem spec_lab (x : Int) : spec_IsLabel.f x = some (isLab x) := by
  unfold spec_IsLabel.f isLab; simp only [spec_in, Option.bind_some]
  cases inR x 0 1022 <;> simp [beq_dec]

theorem impl_in (a b c : Int) : impl_InRange.f a b c = some (inR a b c) := by
  unfold impl_InRange.f inR; exact and_if _ _

theorem impl_lab (x : Int) : impl_IsLabel.f x = some (isLab x) := by
  unfold impl_IsLabel.f isLab; simp only [impl_in, Option.bind_some]
  cases inR x 0 1022 <;> simp [beq_dec]


theorem lab_all : ∀ n : Fin 512, laws_FnExactLabelText.f 40 (2 * (n.val : Int)) = some true := by decide +kernel
theorem FnExactLabelText : laws_FnExactLabelText.Pure := by
  intro a0 _
  refine ⟨40, ?_⟩
  cases h : isLab a0
  · have e1 : spec_OwnersIn.f 40 a0 = some [] := by
      unfold spec_OwnersIn.f
      rw [spec_OwnersIn.l0, if_pos (by decide), spec_lab, Option.bind_some, h, spec_OwnersIn.j1, if_neg (by decide)]
    have e2 : impl_OwnersIn.f 40 a0 = some [] := by
      unfold impl_OwnersIn.f
      rw [Option.bind_some, impl_lab, Option.bind_some, h, if_neg (by decide)]
    unfold laws_FnExactLabelText.f spec_LabelText.f impl_LabelText.f
    rw [e1, e2, Option.bind_some, Option.bind_some]
    decide +kernel
  · unfold isLab inR at h
    simp only [Bool.and_eq_true, decide_eq_true_eq] at h
    have ht := h.2
    rw [Int.tmod_eq_emod_of_nonneg (by omega)] at ht
    have := lab_all ⟨(a0 / 2).toNat, by omega⟩
    rw [show (2 * (((⟨(a0 / 2).toNat, by omega⟩ : Fin 512).val : Nat) : Int)) = a0 by show 2 * (((a0 / 2).toNat : Nat) : Int) = a0; omega] at this
    exact this

end Go.Proofs.YtilneejgliglhaaDoor.Pure
