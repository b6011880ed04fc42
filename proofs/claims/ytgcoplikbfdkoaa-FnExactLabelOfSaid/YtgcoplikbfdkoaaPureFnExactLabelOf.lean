/- The printed function of the law FnExactLabelOf answers true, for all arguments, under no condition but that each whole number is one of its kind and that each slice has a length that fits. -/
import Derived.Test.YtgcoplikbfdkoaaPFnExactLabelOfx1
namespace Go.Proofs.Ytgcoplikbfdkoaa.Pure
open Go.RowKit Go.Proofs.Ytgcoplikbfdkoaa.PFnExactLabelOf Go.Proofs.YtgcoplikbfdkoaaW.PrintWords Go.Proofs.YtgcoplikbfdkoaaW.PrintLast
set_option linter.unusedVariables false
set_option linter.unusedSimpArgs false
theorem wr {i : Int} (h0 : -9223372036854775808 ≤ i) (h1 : i ≤ 9223372036854775807) : wrap64 i = i := by unfold wrap64; omega
theorem beq_dec (a b : Int) : (a == b) = decide (a = b) := by by_cases h : a = b <;> simp [h]
theorem and_if (p : Prop) [Decidable p] (c : Bool) : (if p then some c else some false) = some (decide p && c) := by
  by_cases h : p <;> simp [h]
theorem or_if (p : Prop) [Decidable p] (c : Bool) : (if p then some true else some c) = some (decide p || c) := by
  by_cases h : p <;> simp [h]
def inR (a b c : Int) : Bool := decide (b ≤ a) && decide (a ≤ c)
def isPat (o s : Int) : Bool := inR o 0 9 && inR s (-1) 9
def isSit (o s : Int) : Bool := inR o 1 9 && inR s 0 9
def mtch (po ps o s : Int) : Bool := isPat po ps && (isSit o s && ((decide (po = 0) || decide (po = o)) && (decide (ps = -1) || decide (ps = s))))
def narr (po ps qo qs : Int) : Bool := isPat po ps && (isPat qo qs && ((decide (qo = 0) || decide (po = qo)) && (decide (qs = -1) || decide (ps = qs))))
def isGra (e po ps k f u : Int) : Bool := inR e 1 5 && (isPat po ps && (inR k 1 4 && (decide (0 ≤ f) && (decide (f ≤ u) && decide (u ≤ 10000)))))
def isLim (e po ps k : Int) : Bool := inR e 0 5 && (isPat po ps && inR k 0 4)
def covr (e po ps k f u : Int) (cl : Bool) (ext o s kind tick : Int) (ck : Bool) : Bool :=
  isGra e po ps k f u && (decide (e = ext) && (decide (k = kind) && (mtch po ps o s && (inR tick f u && (ck || !cl)))))
def isRul (e p po ps s a o b : Int) : Bool :=
  inR e 1 5 && (inR p 1 9 && (isPat po ps && (inR s 0 4 && ((decide (a = 1) || decide (a = 2)) && (decide (o = 0) && decide (b = 0)) || decide (a = 3) && isSit o b))))
def isReq (o s t : Int) : Bool := isSit o s && inR t 1 4
def appl (e p po ps s a o b qo qs qt : Int) : Bool := isRul e p po ps s a o b && (isReq qo qs qt && (mtch po ps qo qs && (decide (s = 0) || decide (s = qt))))
def isLen (e po ps k f u : Int) (cl : Bool) : Bool := isGra e po ps k f u && (decide (po ≠ 0) && (decide (ps ≠ -1) && ((decide (k = 1) || decide (k = 2)) && (decide (u = f + 5) && !cl))))
def isLab (x : Int) : Bool := inR x 0 1022 && decide (Int.tmod x 2 = 0)
def befo (ae ap aa ao ab be bp ba bo bb : Int) : Bool :=
  if ap = bp then (if aa = ba then (if ae = be then (if ao = bo then decide (ab < bb) else decide (ao < bo)) else decide (ae < be)) else decide (aa < ba)) else decide (bp < ap)
def within (e po ps k f u : Int) (cl : Bool) (e' po' ps' k' f' u' : Int) (cl' : Bool) : Bool :=
  isGra e po ps k f u && (isGra e' po' ps' k' f' u' && (decide (e = e') && (decide (k = k') && (narr po ps po' ps' && (decide (f' ≤ f) && (decide (u ≤ u') && (cl || !cl')))))))
theorem take_set1 {α : Type} (s : List α) (i : Nat) (v : α) (h : i < s.length) : (s.set i v).take (i + 1) = s.take i ++ [v] := by
  rw [List.take_succ_eq_append_getElem (by simpa using h), List.take_set, List.set_eq_of_length_le (by simp; omega)]
  simp
theorem loop_up {σ ρ : Type} (g : Nat → σ → Int → Option ρ) (n : Nat) (out : σ → Nat → ρ) (I : σ → Nat → Prop) (hn : n ≤ 9223372036854775806)
    (hstep : ∀ (k : Nat) (s : σ) (i : Nat), i < n → I s i → (∀ s', I s' (i + 1) → g k s' (wrap64 ((i : Int) + 1)) = some (out s' (i + 1))) → g (k + 1) s (i : Int) = some (out s i))
    (hend : ∀ (k : Nat) (s : σ), I s n → g (k + 1) s (n : Int) = some (out s n)) :
    ∀ (d k : Nat) (s : σ) (i : Nat), i + d = n → d < k → I s i → g k s (i : Int) = some (out s i) := by
  intro d
  induction d with
  | zero =>
    intro k s i hi hk hI
    obtain ⟨k, rfl⟩ : ∃ m, k = m + 1 := ⟨k - 1, by omega⟩
    obtain rfl : i = n := by omega
    exact hend k s hI
  | succ d ih =>
    intro k s i hi hk hI
    obtain ⟨k, rfl⟩ : ∃ m, k = m + 1 := ⟨k - 1, by omega⟩
    refine hstep k s i (by omega) hI fun s' hI' => ?_
    have := ih k s' (i + 1) (by omega) (by omega) hI'
    rw [wr (by omega) (by omega)]
    exact_mod_cast this
theorem loop_from {σ ρ : Type} {g : Nat → σ → Int → Option ρ} {n : Nat} {out : σ → Nat → ρ} {I : σ → Nat → Prop} (h : ∀ (d k : Nat) (s : σ) (i : Nat), i + d = n → d < k → I s i → g k s (i : Int) = some (out s i))
    (k : Nat) (hk : n < k) (s : σ) (hI : I s 0) : g k s 0 = some (out s 0) := by
  have := h n k s 0 (by omega) hk hI
  exact_mod_cast this
theorem drop_at {α : Type} (xs : List α) (i : Nat) (h : i < xs.length) : xs.drop i = xs[i] :: xs.drop (i + 1) := List.drop_eq_getElem_cons h

theorem nlt {n : Nat} : ¬ (n : Int) < (n : Int) := by omega
/-- where a list is copied element by element into a made one -/
theorem rd_at {α : Type} (z : α) (xs : List α) (i : Nat) (h : i < xs.length) : xs.getD (i : Int).toNat z = xs[i] := by simp [h]

theorem loop_upm {σ ρ : Type} (m : Nat) (g : Nat → σ → Int → Option ρ) (n : Nat) (out : σ → Nat → ρ) (I : σ → Nat → Prop) (hn : n ≤ 9223372036854775806)
    (hstep : ∀ (k : Nat) (s : σ) (i : Nat), m ≤ k → i < n → I s i → (∀ s', I s' (i + 1) → g k s' (wrap64 ((i : Int) + 1)) = some (out s' (i + 1))) → g (k + 1) s (i : Int) = some (out s i))
    (hend : ∀ (k : Nat) (s : σ), m ≤ k → I s n → g (k + 1) s (n : Int) = some (out s n)) :
    ∀ (d k : Nat) (s : σ) (i : Nat), i + d = n → d + m < k → I s i → g k s (i : Int) = some (out s i) := by
  intro d
  induction d with
  | zero =>
    intro k s i hi hk hI
    obtain ⟨k, rfl⟩ : ∃ m, k = m + 1 := ⟨k - 1, by omega⟩
    obtain rfl : i = n := by omega
    exact hend k s (by omega) hI
  | succ d ih =>
    intro k s i hi hk hI
    obtain ⟨k, rfl⟩ : ∃ m, k = m + 1 := ⟨k - 1, by omega⟩
    refine hstep k s i (by omega) (by omega) hI fun s' hI' => ?_
    have := ih k s' (i + 1) (by omega) (by omega) hI'
    rw [wr (by omega) (by omega)]
    exact_mod_cast this
theorem loop_fromm {σ ρ : Type} {m : Nat} {g : Nat → σ → Int → Option ρ} {n : Nat} {out : σ → Nat → ρ} {I : σ → Nat → Prop} (h : ∀ (d k : Nat) (s : σ) (i : Nat), i + d = n → d + m < k → I s i → g k s (i : Int) = some (out s i))
    (k : Nat) (hk : n + m < k) (s : σ) (hI : I s 0) : g k s 0 = some (out s 0) := by
  have := h n k s 0 (by omega) hk hI
  exact_mod_cast this
theorem loop_run {σ ρ : Type} (m : Nat) (g : Nat → σ → Int → Option ρ) (n : Nat) (out : σ → Nat → ρ) (I : σ → Nat → Prop) (hn : n ≤ 9223372036854775806)
    (hstep : ∀ (k : Nat) (s : σ) (i : Nat), m ≤ k → i < n → I s i → (∀ s', I s' (i + 1) → g k s' (wrap64 ((i : Int) + 1)) = some (out s' (i + 1))) → g (k + 1) s (i : Int) = some (out s i))
    (hend : ∀ (k : Nat) (s : σ), m ≤ k → I s n → g (k + 1) s (n : Int) = some (out s n)) (k : Nat) (hk : n + m < k) (s : σ) (hI : I s 0) : g k s 0 = some (out s 0) :=
  loop_fromm (loop_upm m g n out I hn hstep hend) k hk s hI
theorem if_and2 {α : Type} (a : Bool) (p : Prop) [Decidable p] (x y : α) : (if a = true then (if p then x else y) else y) = if (a && decide p) = true then x else y := by
  cases a <;> by_cases h : p <;> simp [h]

theorem if_nand {α : Type} (a b : Bool) (x y : α) : (if a = true then (if b = true then y else x) else x) = if (!(a && b)) = true then x else y := by
  cases a <;> cases b <;> simp

def W9 (a b c d e f g h i : Bool) : Nat := 2 * a.toNat + (4 * b.toNat + (8 * c.toNat + (16 * d.toNat + (32 * e.toNat + (64 * f.toNat + (128 * g.toNat + (256 * h.toNat + 512 * i.toNat)))))))
theorem W9_bit : ∀ (a b c d e f g h i : Bool), W9 a b c d e f g h i < 1024 ∧ (W9 a b c d e f g h i).testBit 0 = false ∧ (W9 a b c d e f g h i).testBit 1 = a ∧ (W9 a b c d e f g h i).testBit 2 = b ∧ (W9 a b c d e f g h i).testBit 3 = c ∧ (W9 a b c d e f g h i).testBit 4 = d
    ∧ (W9 a b c d e f g h i).testBit 5 = e ∧ (W9 a b c d e f g h i).testBit 6 = f ∧ (W9 a b c d e f g h i).testBit 7 = g ∧ (W9 a b c d e f g h i).testBit 8 = h ∧ (W9 a b c d e f g h i).testBit 9 = i := by decide +kernel
def V (f : Nat → Bool) : Nat := W9 (f 1) (f 2) (f 3) (f 4) (f 5) (f 6) (f 7) (f 8) (f 9)
theorem V_lt (f : Nat → Bool) : V f < 1024 := (W9_bit _ _ _ _ _ _ _ _ _).1
theorem V_congr (f g : Nat → Bool) (h : ∀ o, 1 ≤ o → o ≤ 9 → f o = g o) : V f = V g := by
  unfold V
  rw [h 1 (by omega) (by omega), h 2 (by omega) (by omega), h 3 (by omega) (by omega), h 4 (by omega) (by omega), h 5 (by omega) (by omega), h 6 (by omega) (by omega), h 7 (by omega) (by omega), h 8 (by omega) (by omega), h 9 (by omega) (by omega)]
theorem V_or (f g : Nat → Bool) : V f ||| V g = V (fun j => f j || g j) := by
  apply Nat.eq_of_testBit_eq
  intro o
  rw [Nat.testBit_or]
  by_cases ho : o < 10
  · obtain ⟨-, F0, F1, F2, F3, F4, F5, F6, F7, F8, F9⟩ := W9_bit (f 1) (f 2) (f 3) (f 4) (f 5) (f 6) (f 7) (f 8) (f 9)
    obtain ⟨-, G0, G1, G2, G3, G4, G5, G6, G7, G8, G9⟩ := W9_bit (g 1) (g 2) (g 3) (g 4) (g 5) (g 6) (g 7) (g 8) (g 9)
    obtain ⟨-, H0, H1, H2, H3, H4, H5, H6, H7, H8, H9⟩ := W9_bit (f 1 || g 1) (f 2 || g 2) (f 3 || g 3) (f 4 || g 4) (f 5 || g 5) (f 6 || g 6) (f 7 || g 7) (f 8 || g 8) (f 9 || g 9)
    have : o = 0 ∨ o = 1 ∨ o = 2 ∨ o = 3 ∨ o = 4 ∨ o = 5 ∨ o = 6 ∨ o = 7 ∨ o = 8 ∨ o = 9 := by omega
    unfold V
    rcases this with rfl | rfl | rfl | rfl | rfl | rfl | rfl | rfl | rfl | rfl
    · rw [F0, G0, H0]; rfl
    · rw [F1, G1, H1]
    · rw [F2, G2, H2]
    · rw [F3, G3, H3]
    · rw [F4, G4, H4]
    · rw [F5, G5, H5]
    · rw [F6, G6, H6]
    · rw [F7, G7, H7]
    · rw [F8, G8, H8]
    · rw [F9, G9, H9]
  · have big : ∀ f, (V f).testBit o = false := fun f => Nat.testBit_lt_two_pow (Nat.lt_of_lt_of_le (V_lt f) (Nat.le_trans (by decide : 1024 ≤ 2 ^ 10) (Nat.pow_le_pow_right (by decide) (by omega))))
    rw [big, big, big]; rfl
theorem V_one : ∀ x : Fin 10, 1 ≤ x.val → 2 ^ x.val = V (fun j => decide (j = x.val)) := by decide +kernel
theorem or_nat (a b : Nat) (ha : a < 1024) (hb : b < 1024) : Go.bits .or .i64 (a : Int) (b : Int) = ((a ||| b : Nat) : Int) :=
  (bits_nat .i64 10 (by decide) (fun n h0 h1 => by rw [IntKind.wrap_i64]; omega) a b (by simpa using ha) (by simpa using hb)).2
theorem lab_fin (x : Int) (h : isLab x = true) : ∃ i : Fin 512, x = 2 * ((i.val : Nat) : Int) := by
  unfold isLab inR at h
  simp only [Bool.and_eq_true, decide_eq_true_eq] at h
  obtain ⟨⟨h0, h1⟩, h2⟩ := h
  refine ⟨⟨(x / 2).toNat, by omega⟩, ?_⟩
  have : Int.tmod x 2 = x % 2 := Int.tmod_eq_emod_of_nonneg h0
  simp only
  omega


theorem rdInt0 (xs : List Int) (i : Nat) (h : i < xs.length) : rd xs (i : Int) = xs[i] := rd_at _ xs i h
theorem has_eq (k : Nat) (xs : List Int) (o : Int) (hn : xs.length ≤ 9223372036854775806) (hk : xs.length < k) : spec_l7Has.f k xs o = some (decide (o ∈ xs)) := by
  have L := loop_run 0 (fun k (_ : Unit) i => spec_l7Has.l0 k xs o i) xs.length (fun _ i => decide (o ∈ xs.drop i)) (fun _ _ => True) hn
    (fun k s i hm hi hI ih => by
      simp only [spec_l7Has.l0]
      rw [if_pos (by omega), if_pos (by omega), rdInt0 _ _ hi, drop_at _ _ hi, ih () trivial]
      by_cases h : xs[i] = o
      · rw [if_pos h]; simp [h]
      · have e : (o ∈ xs[i] :: xs.drop (i + 1)) ↔ o ∈ xs.drop (i + 1) := by
          rw [List.mem_cons]; exact or_iff_right (fun e => h e.symm)
        rw [if_neg h, decide_eq_decide.2 e])
    (fun k s hm hI => by
      simp only [spec_l7Has.l0]
      rw [if_neg nlt]; simp) k hk () trivial
  unfold spec_l7Has.f
  simpa using L


def hasO (l : List Int) (o : Nat) : Bool := decide ((o : Int) ∈ l)
theorem hasO_cons (x : Int) (l : List Int) (j : Nat) : hasO (x :: l) j = (decide ((j : Int) = x) || hasO l j) := by simp [hasO]
theorem bit_eq (k : Nat) (hk : 11 ≤ k) (o : Nat) (h1 : 1 ≤ o) (h9 : o ≤ 9) : spec_l19Bit.f k (o : Int) = some ((2 ^ o : Nat) : Int) := by
  obtain ⟨m, rfl⟩ : ∃ m, k = m + 11 := ⟨k - 11, by omega⟩
  have : o = 1 ∨ o = 2 ∨ o = 3 ∨ o = 4 ∨ o = 5 ∨ o = 6 ∨ o = 7 ∨ o = 8 ∨ o = 9 := by omega
  rcases this with rfl | rfl | rfl | rfl | rfl | rfl | rfl | rfl | rfl <;> simp [spec_l19Bit.f, spec_l19Bit.l0, wrap64]
theorem sl_step (k : Nat) (l : List Int) (x o : Nat) (hn : l.length ≤ 9223372036854775806) (h1 : 1 ≤ o) (h9 : o ≤ 9) (hk : l.length < k) (hk2 : 11 ≤ k) (hx : x ≤ 100000) :
    spec_LabelOf.l0 (k + 1) l (x : Int) (o : Int) = spec_LabelOf.l0 k l ((x + 2 ^ o * (hasO l o).toNat : Nat) : Int) ((o + 1 : Nat) : Int) := by
  simp only [spec_LabelOf.l0]
  have hp : 2 ^ o ≤ 2 ^ 9 := Nat.pow_le_pow_right (by decide) h9
  have hp0 : 0 < 2 ^ o := Nat.two_pow_pos o
  rw [if_pos (by omega), has_eq k l _ hn hk, Option.bind_some, bit_eq k hk2 o h1 h9, wr (i := (o : Int) + 1) (by omega) (by omega)]
  unfold hasO
  by_cases h : (o : Int) ∈ l
  · rw [if_pos (by simpa using h), Option.bind_some, wr (by omega) (by omega)]
    simp [h]
  · rw [if_neg (by simpa using h)]
    simp [h]
theorem spec_label (k : Nat) (l : List Int) (hn : l.length ≤ 9223372036854775806) (hk : l.length + 30 < k) : spec_LabelOf.f k l = some ((V (hasO l) : Nat) : Int) := by
  obtain ⟨m, rfl⟩ : ∃ m, k = m + 10 := ⟨k - 10, by omega⟩
  have B := fun o => Bool.toNat_le (hasO l o)
  have b1 := B 1; have b2 := B 2; have b3 := B 3; have b4 := B 4; have b5 := B 5; have b6 := B 6; have b7 := B 7; have b8 := B 8; have b9 := B 9
  show spec_LabelOf.l0 (m + 9 + 1) l ((0 : Nat) : Int) ((1 : Nat) : Int) = _
  rw [sl_step _ l _ 1 hn (by omega) (by omega) (by omega) (by omega) (by omega), sl_step (m + 8) l _ 2 hn (by omega) (by omega) (by omega) (by omega) (by omega), sl_step (m + 7) l _ 3 hn (by omega) (by omega) (by omega) (by omega) (by omega),
    sl_step (m + 6) l _ 4 hn (by omega) (by omega) (by omega) (by omega) (by omega), sl_step (m + 5) l _ 5 hn (by omega) (by omega) (by omega) (by omega) (by omega), sl_step (m + 4) l _ 6 hn (by omega) (by omega) (by omega) (by omega) (by omega),
    sl_step (m + 3) l _ 7 hn (by omega) (by omega) (by omega) (by omega) (by omega), sl_step (m + 2) l _ 8 hn (by omega) (by omega) (by omega) (by omega) (by omega), sl_step (m + 1) l _ 9 hn (by omega) (by omega) (by omega) (by omega) (by omega)]
  simp only [spec_LabelOf.l0]
  rw [if_neg (by omega)]
  unfold V W9
  congr 1
  omega


theorem rdInt1 (xs : List Int) (i : Nat) (h : i < xs.length) : rd xs (i : Int) = xs[i] := rd_at _ xs i h
theorem toIntS_eq (k : Nat) (xs : List Int) (hn : xs.length ≤ 1048576) (hk : xs.length < k) : laws_toIntS.f k xs = some xs := by
  have L := loop_run 0 (fun k (s : List Int) i => laws_toIntS.l0 k xs s i) xs.length (fun s i => s.take i ++ xs.drop i) (fun s i => s.length = xs.length) (by omega)
    (fun k s i hm hi hI ih => by
      simp only [laws_toIntS.l0]
      rw [if_pos (by omega), if_pos (by omega), if_pos (by omega), rdInt1 _ _ hi, Int.toNat_natCast, ih _ (by simpa using hI), take_set1 _ _ _ (by omega), drop_at _ _ hi]
      simp)
    (fun k s hm hI => by
      simp only [laws_toIntS.l0]
      rw [if_neg (by omega), List.drop_of_length_le (by omega), List.take_of_length_le (by omega)]
      simp) k hk (List.replicate xs.length 0) (by simp)
  unfold laws_toIntS.f
  rw [if_pos (by omega), Int.toNat_natCast, if_pos (by omega)]
  simpa using L

theorem impl_in (a b c : Int) : impl_InRange.f a b c = some (inR a b c) := by
  unfold impl_InRange.f inR; exact and_if _ _


theorem rdInt2 (xs : List Int) (i : Nat) (h : i < xs.length) : rd xs (i : Int) = xs[i] := rd_at _ xs i h
theorem shl_one (o : Nat) (h1 : 1 ≤ o) (h9 : o ≤ 9) : shl .i64 1 (o : Int) = ((2 ^ o : Nat) : Int) := by
  have : o = 1 ∨ o = 2 ∨ o = 3 ∨ o = 4 ∨ o = 5 ∨ o = 6 ∨ o = 7 ∨ o = 8 ∨ o = 9 := by omega
  rcases this with rfl | rfl | rfl | rfl | rfl | rfl | rfl | rfl | rfl <;> decide +kernel
theorem impl_label (k : Nat) (xs : List Int) (hn : xs.length ≤ 1048576) (hk : xs.length < k) : impl_LabelOf.f k xs = some ((V (hasO xs) : Nat) : Int) := by
  have L := loop_run 0 (fun k (s : Nat → Bool) i => impl_LabelOf.l0 k ((V s : Nat) : Int) xs (xs.length : Int) i) xs.length (fun s i => ((V (fun o => s o || hasO (xs.drop i) o) : Nat) : Int)) (fun s i => True) (by omega)
    (fun k s i hm hi hI ih => by
      simp only [impl_LabelOf.l0]
      rw [if_pos (by omega), if_pos (by omega), if_pos (by omega), impl_in, Option.bind_some, rdInt2 _ _ hi, drop_at _ _ hi]
      by_cases h : inR xs[i] 1 9 = true
      · have h' := h
        unfold inR at h'
        simp only [Bool.and_eq_true, decide_eq_true_eq] at h'
        obtain ⟨o, ho⟩ : ∃ o : Nat, xs[i] = (o : Int) := ⟨xs[i].toNat, by omega⟩
        rw [if_pos h, if_pos (by omega), ho, shl_one o (by omega) (by omega), or_nat _ _ (V_lt _) (Nat.lt_of_le_of_lt (Nat.pow_le_pow_right (by decide) (by omega : o ≤ 9)) (by decide)), V_one ⟨o, by omega⟩ (by simp only; omega), V_or, ih _ trivial]
        congr 2
        apply V_congr
        intro j h1 h9
        have e : decide (j = o) = decide ((j : Int) = (o : Int)) := by
          by_cases h : j = o
          · simp [h]
          · simp [h, show ¬ (j : Int) = (o : Int) by omega]
        simp [hasO, e, Bool.or_assoc]
      · rw [if_neg h, ih s trivial]
        congr 2
        apply V_congr
        intro j h1 h9
        have e : decide ((j : Int) = xs[i]) = false := by
          apply decide_eq_false
          intro he
          apply h
          unfold inR
          simp; omega
        show (s j || hasO (xs.drop (i + 1)) j) = (s j || hasO (xs[i] :: xs.drop (i + 1)) j)
        rw [hasO_cons, e, Bool.false_or])
    (fun k s hm hI => by
      simp only [impl_LabelOf.l0]
      rw [if_neg nlt]; simp [hasO]) k hk (fun _ => false) trivial
  unfold impl_LabelOf.f
  have e0 : V (fun _ => false) = 0 := by decide
  simp only [e0] at L
  simpa using L

theorem rdInt (xs : List Int) (i : Nat) (h : i < xs.length) : rd xs (i : Int) = xs[i] := rd_at _ xs i h
theorem eqIntS_self (k : Nat) (xs : List Int) (hn : xs.length ≤ 1048576) (hk : xs.length < k) : laws_eqIntS.f k xs xs = some true := by
  have L := loop_run 0 (fun k (_ : Unit) i => laws_eqIntS.l0 k xs xs i) xs.length (fun _ _ => true) (fun _ _ => True) (by omega)
    (fun k s i hm hi hI ih => by
      simp only [laws_eqIntS.l0]
      rw [if_pos (by omega), if_pos (by omega), if_pos (by omega)]
      simp only [if_true]
      exact ih () trivial)
    (fun k s hm hI => by
      simp only [laws_eqIntS.l0]
      rw [if_neg nlt]) k hk () trivial
  try dsimp only at L
  unfold laws_eqIntS.f
  rw [if_pos rfl, L]


theorem FnExactLabelOf : laws_FnExactLabelOf.Pure := fun l0 _ _ _ => by
  refine ⟨l0.length + 40, ?_⟩
  unfold laws_FnExactLabelOf.f
  split
  · rfl
  · rw [toIntS_eq _ _ (by omega) (by omega), Option.bind_some, spec_label _ _ (by omega) (by omega), Option.bind_some, Option.bind_some, impl_label _ _ (by omega) (by omega), Option.bind_some, if_pos rfl, Option.bind_some, eqIntS_self _ _ (by omega) (by omega)]
    rfl

end Go.Proofs.Ytgcoplikbfdkoaa.Pure
