/- The printed function of the law FnExactLendGrants answers true, for all arguments, under no condition but that each whole number is one of its kind and that each slice has a length that fits. -/
import Derived.Test.YtcobdjldjneeaaaQLx13
namespace Go.Proofs.Ytcobdjldjneeaaa.Pure
open Go.RowKit Go.Proofs.Ytcobdjldjneeaaa.QL Go.Proofs.YtcobdjldjneeaaaW.PrintWords Go.Proofs.YtcobdjldjneeaaaW.PrintLast
set_option linter.unusedVariables false
set_option linter.unusedSimpArgs false
theorem wr {i : Int} (h0 : -9223372036854775808 ≤ i) (h1 : i ≤ 9223372036854775807) : wrap64 i = i := by unfold wrap64; omega
theorem beq_dec (a b : Int) : (a == b) = decide (a = b) := by by_cases h : a = b <;> simp [h]
theorem and_if (p : Prop) [Decidable p] (c : Bool) : (if p then some c else some false) = some (decide p && c) := by
  by_cases h : p <;> simp [h]
theorem or_if (p : Prop) [Decidable p] (c : Bool) : (if p then some true else some c) = some (decide p || c) := by
  by_cases h : p <;> simp [h]
def inR (a b c : Int) : Bool := decide (b ≤ a) && decide (a ≤ c)
def isPat (o s : Int) : Bool := inR o 0 9 && inR s (-1) 9
def isSit (o s : Int) : Bool := inR o 1 9 && inR s 0 9
def mtch (po ps o s : Int) : Bool := isPat po ps && (isSit o s && ((decide (po = 0) || decide (po = o)) && (decide (ps = -1) || decide (ps = s))))
def narr (po ps qo qs : Int) : Bool := isPat po ps && (isPat qo qs && ((decide (qo = 0) || decide (po = qo)) && (decide (qs = -1) || decide (ps = qs))))
def isGra (e po ps k f u : Int) : Bool := inR e 1 5 && (isPat po ps && (inR k 1 4 && (decide (0 ≤ f) && (decide (f ≤ u) && decide (u ≤ 10000)))))
def isLim (e po ps k : Int) : Bool := inR e 0 5 && (isPat po ps && inR k 0 4)
def covr (e po ps k f u : Int) (cl : Bool) (ext o s kind tick : Int) (ck : Bool) : Bool :=
  isGra e po ps k f u && (decide (e = ext) && (decide (k = kind) && (mtch po ps o s && (inR tick f u && (ck || !cl)))))
def isRul (e p po ps s a o b : Int) : Bool :=
  inR e 1 5 && (inR p 1 9 && (isPat po ps && (inR s 0 4 && ((decide (a = 1) || decide (a = 2)) && (decide (o = 0) && decide (b = 0)) || decide (a = 3) && isSit o b))))
def isReq (o s t : Int) : Bool := isSit o s && inR t 1 4
def appl (e p po ps s a o b qo qs qt : Int) : Bool := isRul e p po ps s a o b && (isReq qo qs qt && (mtch po ps qo qs && (decide (s = 0) || decide (s = qt))))
def isLen (e po ps k f u : Int) (cl : Bool) : Bool := isGra e po ps k f u && (decide (po ≠ 0) && (decide (ps ≠ -1) && ((decide (k = 1) || decide (k = 2)) && (decide (u = f + 5) && !cl))))
def isLab (x : Int) : Bool := inR x 0 1022 && decide (Int.tmod x 2 = 0)
def befo (ae ap aa ao ab be bp ba bo bb : Int) : Bool :=
  if ap = bp then (if aa = ba then (if ae = be then (if ao = bo then decide (ab < bb) else decide (ao < bo)) else decide (ae < be)) else decide (aa < ba)) else decide (bp < ap)
def within (e po ps k f u : Int) (cl : Bool) (e' po' ps' k' f' u' : Int) (cl' : Bool) : Bool :=
  isGra e po ps k f u && (isGra e' po' ps' k' f' u' && (decide (e = e') && (decide (k = k') && (narr po ps po' ps' && (decide (f' ≤ f) && (decide (u ≤ u') && (cl || !cl')))))))
theorem take_set1 {α : Type} (s : List α) (i : Nat) (v : α) (h : i < s.length) : (s.set i v).take (i + 1) = s.take i ++ [v] := by
  rw [List.take_succ_eq_append_getElem (by simpa using h), List.take_set, List.set_eq_of_length_le (by simp; omega)]
  simp
theorem loop_up {σ ρ : Type} (g : Nat → σ → Int → Option ρ) (n : Nat) (out : σ → Nat → ρ) (I : σ → Nat → Prop) (hn : n ≤ 9223372036854775806)
    (hstep : ∀ (k : Nat) (s : σ) (i : Nat), i < n → I s i → (∀ s', I s' (i + 1) → g k s' (wrap64 ((i : Int) + 1)) = some (out s' (i + 1))) → g (k + 1) s (i : Int) = some (out s i))
    (hend : ∀ (k : Nat) (s : σ), I s n → g (k + 1) s (n : Int) = some (out s n)) :
    ∀ (d k : Nat) (s : σ) (i : Nat), i + d = n → d < k → I s i → g k s (i : Int) = some (out s i) := by
  intro d
  induction d with
  | zero =>
    intro k s i hi hk hI
    obtain ⟨k, rfl⟩ : ∃ m, k = m + 1 := ⟨k - 1, by omega⟩
    obtain rfl : i = n := by omega
    exact hend k s hI
  | succ d ih =>
    intro k s i hi hk hI
    obtain ⟨k, rfl⟩ : ∃ m, k = m + 1 := ⟨k - 1, by omega⟩
    refine hstep k s i (by omega) hI fun s' hI' => ?_
    have := ih k s' (i + 1) (by omega) (by omega) hI'
    rw [wr (by omega) (by omega)]
    exact_mod_cast this
theorem loop_from {σ ρ : Type} {g : Nat → σ → Int → Option ρ} {n : Nat} {out : σ → Nat → ρ} {I : σ → Nat → Prop} (h : ∀ (d k : Nat) (s : σ) (i : Nat), i + d = n → d < k → I s i → g k s (i : Int) = some (out s i))
    (k : Nat) (hk : n < k) (s : σ) (hI : I s 0) : g k s 0 = some (out s 0) := by
  have := h n k s 0 (by omega) hk hI
  exact_mod_cast this
theorem drop_at {α : Type} (xs : List α) (i : Nat) (h : i < xs.length) : xs.drop i = xs[i] :: xs.drop (i + 1) := List.drop_eq_getElem_cons h

theorem nlt {n : Nat} : ¬ (n : Int) < (n : Int) := by omega
/-- where a list is copied element by element into a made one -/
theorem rd_at {α : Type} (z : α) (xs : List α) (i : Nat) (h : i < xs.length) : xs.getD (i : Int).toNat z = xs[i] := by simp [h]

theorem loop_upm {σ ρ : Type} (m : Nat) (g : Nat → σ → Int → Option ρ) (n : Nat) (out : σ → Nat → ρ) (I : σ → Nat → Prop) (hn : n ≤ 9223372036854775806)
    (hstep : ∀ (k : Nat) (s : σ) (i : Nat), m ≤ k → i < n → I s i → (∀ s', I s' (i + 1) → g k s' (wrap64 ((i : Int) + 1)) = some (out s' (i + 1))) → g (k + 1) s (i : Int) = some (out s i))
    (hend : ∀ (k : Nat) (s : σ), m ≤ k → I s n → g (k + 1) s (n : Int) = some (out s n)) :
    ∀ (d k : Nat) (s : σ) (i : Nat), i + d = n → d + m < k → I s i → g k s (i : Int) = some (out s i) := by
  intro d
  induction d with
  | zero =>
    intro k s i hi hk hI
    obtain ⟨k, rfl⟩ : ∃ m, k = m + 1 := ⟨k - 1, by omega⟩
    obtain rfl : i = n := by omega
    exact hend k s (by omega) hI
  | succ d ih =>
    intro k s i hi hk hI
    obtain ⟨k, rfl⟩ : ∃ m, k = m + 1 := ⟨k - 1, by omega⟩
    refine hstep k s i (by omega) (by omega) hI fun s' hI' => ?_
    have := ih k s' (i + 1) (by omega) (by omega) hI'
    rw [wr (by omega) (by omega)]
    exact_mod_cast this
theorem loop_fromm {σ ρ : Type} {m : Nat} {g : Nat → σ → Int → Option ρ} {n : Nat} {out : σ → Nat → ρ} {I : σ → Nat → Prop} (h : ∀ (d k : Nat) (s : σ) (i : Nat), i + d = n → d + m < k → I s i → g k s (i : Int) = some (out s i))
    (k : Nat) (hk : n + m < k) (s : σ) (hI : I s 0) : g k s 0 = some (out s 0) := by
  have := h n k s 0 (by omega) hk hI
  exact_mod_cast this
theorem loop_run {σ ρ : Type} (m : Nat) (g : Nat → σ → Int → Option ρ) (n : Nat) (out : σ → Nat → ρ) (I : σ → Nat → Prop) (hn : n ≤ 9223372036854775806)
    (hstep : ∀ (k : Nat) (s : σ) (i : Nat), m ≤ k → i < n → I s i → (∀ s', I s' (i + 1) → g k s' (wrap64 ((i : Int) + 1)) = some (out s' (i + 1))) → g (k + 1) s (i : Int) = some (out s i))
    (hend : ∀ (k : Nat) (s : σ), m ≤ k → I s n → g (k + 1) s (n : Int) = some (out s n)) (k : Nat) (hk : n + m < k) (s : σ) (hI : I s 0) : g k s 0 = some (out s 0) :=
  loop_fromm (loop_upm m g n out I hn hstep hend) k hk s hI
theorem if_and2 {α : Type} (a : Bool) (p : Prop) [Decidable p] (x y : α) : (if a = true then (if p then x else y) else y) = if (a && decide p) = true then x else y := by
  cases a <;> by_cases h : p <;> simp [h]

theorem if_nand {α : Type} (a b : Bool) (x y : α) : (if a = true then (if b = true then y else x) else x) = if (!(a && b)) = true then x else y := by
  cases a <;> cases b <;> simp
theorem rdPattern_i (xs : List S33) (i : Nat) (h : i < xs.length) : rd_T33 xs (i : Int) = xs[i] := rd_at _ xs i h
theorem rdGrant_i (xs : List S35) (i : Nat) (h : i < xs.length) : rd_T35 xs (i : Int) = xs[i] := rd_at _ xs i h

def lendM (e o s t : Int) : List S35 := if (inR e 1 5 && (isSit o s && inR t 0 9995)) = true then [⟨e, ⟨o, s⟩, 1, t, wrap64 (t + 5), false⟩, ⟨e, ⟨o, s⟩, 2, t, wrap64 (t + 5), false⟩] else []
theorem lendM_len (e o s t : Int) : (lendM e o s t).length ≤ 2 := by unfold lendM; split <;> simp

theorem spec_in (a b c : Int) : spec_l1In.f a b c = some (inR a b c) := by
  unfold spec_l1In.f inR; exact and_if _ _

theorem spec_sit (a b : Int) : spec_IsSite.f a b = some (isSit a b) := by
  unfold spec_IsSite.f isSit; simp only [spec_in, Option.bind_some]; cases inR a 1 9 <;> simp

theorem toSite_eq (a0 : Int) (a1 : Int) : laws_toSite.f a0 a1 = some (a0, a1) := by
  unfold laws_toSite.f; rfl

theorem impl_in (a b c : Int) : impl_InRange.f a b c = some (inR a b c) := by
  unfold impl_InRange.f inR; exact and_if _ _

theorem impl_sit (a b : Int) : impl_IsSite.f a b = some (isSit a b) := by
  unfold impl_IsSite.f isSit; simp only [impl_in, Option.bind_some]; cases inR a 1 9 <;> simp

theorem eqGrant_self (a0 : Int) (a1 : Int) (a2 : Int) (a3 : Int) (a4 : Int) (a5 : Int) (a6 : Bool) : laws_eqGrant.f a0 a1 a2 a3 a4 a5 a6 a0 a1 a2 a3 a4 a5 a6 = some true := by
  simp [laws_eqGrant.f, laws_eqPattern.f]

theorem eqGrantS_self (k : Nat) (xs : List S35) (hn : xs.length ≤ 1048576) (hk : xs.length < k) : laws_eqGrantS.f k xs xs = some true := by
  have L := loop_up (fun k (_ : Unit) i => laws_eqGrantS.l0 k xs xs i) xs.length (fun _ _ => true) (fun _ _ => True) (by omega)
    (fun k s i hi hI ih => by
      simp only [laws_eqGrantS.l0]
      rw [if_pos (by omega), if_pos (by omega), if_pos (by omega)]
      simp only [eqGrant_self, Option.bind_some, if_true]
      exact ih () trivial)
    (fun k s hI => by
      simp only [laws_eqGrantS.l0]
      rw [if_neg nlt])
  unfold laws_eqGrantS.f
  rw [if_pos rfl]
  exact loop_from L k hk () trivial

def mkGrant : Int → List S35 → List S35
  | _, [] => []
  | m, x :: xs => ⟨m, ⟨m + 1, m + 2⟩, m + 3, m + 4, m + 5, Int.tmod (m + 6) 3 == 0⟩ :: mkGrant (m + 7) xs
theorem mkGrant_len : ∀ (xs : List S35) (m : Int), (mkGrant m xs).length = xs.length
  | [], _ => rfl
  | x :: xs, m => by simp [mkGrant, mkGrant_len xs]
theorem rdGrant_set (xs : List S35) (i : Nat) (v : S35) (h : i < xs.length) : rd_T35 (xs.set i v) (i : Int) = v := by
  rw [rdGrant_i _ i (by simpa using h)]; simp
set_option maxHeartbeats 4000000 in
theorem markGrantS_eq (k : Nat) (xs : List S35) (hn : xs.length ≤ 1048576) (hk : xs.length < k) : laws_markGrantS.f k xs 1 = some (1 + 7 * (xs.length : Int), mkGrant 1 xs) := by
  have L := loop_up (fun k (s : List S35 × Int) i => laws_markGrantS.l0 k s.1 s.2 i) xs.length (fun s i => (s.2 + 7 * ((xs.length - i : Nat) : Int), s.1.take i ++ mkGrant s.2 (s.1.drop i))) (fun s i => s.1.length = xs.length ∧ 1 ≤ s.2 ∧ s.2 ≤ 1 + 7 * i) (by omega)
    (fun k s i hi hI ih => by
      obtain ⟨s, m⟩ := s
      obtain ⟨h1, h2, h3⟩ := hI
      simp only at h1 h2 h3
      simp only [laws_markGrantS.l0]
      rw [if_pos (by omega), if_pos (by omega)]
      have hw : ∀ j : Int, 0 ≤ j → j ≤ 10 → wrap64 (m + j) = m + j := fun j _ _ => wr (by omega) (by omega)
      have hv : ∀ j : Int, 0 ≤ j → j ≤ 9 → wrap64 (m + j + 1) = m + (j + 1) := fun j _ _ => by rw [Int.add_assoc]; exact hw (j + 1) (by omega) (by omega)
      have w1 : wrap64 (m + 1) = m + 1 := hw 1 (by decide) (by decide)
      have w2 : wrap64 (m + 2) = m + 2 := hw 2 (by decide) (by decide)
      have w3 : wrap64 (m + 3) = m + 3 := hw 3 (by decide) (by decide)
      have w4 : wrap64 (m + 4) = m + 4 := hw 4 (by decide) (by decide)
      have w5 : wrap64 (m + 5) = m + 5 := hw 5 (by decide) (by decide)
      have w6 : wrap64 (m + 6) = m + 6 := hw 6 (by decide) (by decide)
      have w7 : wrap64 (m + 7) = m + 7 := hw 7 (by decide) (by decide)
      have v1 : wrap64 (m + 1 + 1) = m + 2 := hv 1 (by decide) (by decide)
      have v2 : wrap64 (m + 2 + 1) = m + 3 := hv 2 (by decide) (by decide)
      have v3 : wrap64 (m + 3 + 1) = m + 4 := hv 3 (by decide) (by decide)
      have v4 : wrap64 (m + 4 + 1) = m + 5 := hv 4 (by decide) (by decide)
      have v5 : wrap64 (m + 5 + 1) = m + 6 := hv 5 (by decide) (by decide)
      have v6 : wrap64 (m + 6 + 1) = m + 7 := hv 6 (by decide) (by decide)
      clear hw hv
      simp only [Option.bind_some, Int.toNat_natCast, w1, w2, w3, w4, w5, w6, w7, v1, v2, v3, v4, v5, v6]
      simp only [rdGrant_set _ _ _ (show i < (s.set i _).length by simp; omega), rdGrant_set _ _ _ (show i < s.length by omega), List.set_set, rdGrant_i s i (by omega)]
      have hd := drop_at s i (by omega)
      have := ih (s.set i (let x := s[i]; ⟨m, ⟨m + 1, m + 2⟩, m + 3, m + 4, m + 5, Int.tmod (m + 6) 3 == 0⟩), m + 7) (by simp; omega)
      simp only at this
      rw [this]
      rw [take_set1 _ _ _ (by omega), hd]
      simp only [mkGrant, List.append_assoc, List.singleton_append, List.cons_append, List.nil_append]
      congr 2
      · omega
      · simp [List.drop_set]
    )
    (fun k s hI => by
      simp only [laws_markGrantS.l0]
      rw [if_neg (by omega), List.drop_of_length_le (by omega), List.take_of_length_le (by omega)]
      simp [mkGrant])
  unfold laws_markGrantS.f
  have := loop_from L k hk (xs, 1) (by simp)
  try simp only at this
  rw [this]
  simp

set_option maxHeartbeats 4000000 in
theorem heldGrantS_eq (k : Nat) (xs : List S35) (hn : xs.length ≤ 1048576) (hk : xs.length < k) : laws_heldGrantS.f k (mkGrant 1 xs) 1 = some (1 + 7 * (xs.length : Int)) := by
  have hl := mkGrant_len xs 1
  have L := loop_up (fun k (m : Int) i => laws_heldGrantS.l0 k (mkGrant 1 xs) m i) xs.length (fun m i => m + 7 * ((xs.length - i : Nat) : Int)) (fun m i => 1 ≤ m ∧ m ≤ 1 + 7 * i ∧ (mkGrant 1 xs).drop i = mkGrant m (xs.drop i)) (by omega)
    (fun k m i hi hI ih => by
      obtain ⟨h2, h3, h4⟩ := hI
      have hd := drop_at (mkGrant 1 xs) i (by omega)
      have hx := drop_at xs i hi
      have hr := rdGrant_i (mkGrant 1 xs) i (by omega)
      rw [hd, hx] at h4
      simp only [mkGrant, List.cons.injEq] at h4
      obtain ⟨h5, h6⟩ := h4
      rw [h5] at hr
      simp only [laws_heldGrantS.l0]
      rw [if_pos (by omega), if_pos (by omega)]
      have hw : ∀ j : Int, 0 ≤ j → j ≤ 10 → wrap64 (m + j) = m + j := fun j _ _ => wr (by omega) (by omega)
      have hv : ∀ j : Int, 0 ≤ j → j ≤ 9 → wrap64 (m + j + 1) = m + (j + 1) := fun j _ _ => by rw [Int.add_assoc]; exact hw (j + 1) (by omega) (by omega)
      have w1 : wrap64 (m + 1) = m + 1 := hw 1 (by decide) (by decide)
      have w2 : wrap64 (m + 2) = m + 2 := hw 2 (by decide) (by decide)
      have w3 : wrap64 (m + 3) = m + 3 := hw 3 (by decide) (by decide)
      have w4 : wrap64 (m + 4) = m + 4 := hw 4 (by decide) (by decide)
      have w5 : wrap64 (m + 5) = m + 5 := hw 5 (by decide) (by decide)
      have w6 : wrap64 (m + 6) = m + 6 := hw 6 (by decide) (by decide)
      have w7 : wrap64 (m + 7) = m + 7 := hw 7 (by decide) (by decide)
      have v1 : wrap64 (m + 1 + 1) = m + 2 := hv 1 (by decide) (by decide)
      have v2 : wrap64 (m + 2 + 1) = m + 3 := hv 2 (by decide) (by decide)
      have v3 : wrap64 (m + 3 + 1) = m + 4 := hv 3 (by decide) (by decide)
      have v4 : wrap64 (m + 4 + 1) = m + 5 := hv 4 (by decide) (by decide)
      have v5 : wrap64 (m + 5 + 1) = m + 6 := hv 5 (by decide) (by decide)
      have v6 : wrap64 (m + 6 + 1) = m + 7 := hv 6 (by decide) (by decide)
      clear hw hv
      simp only [hr, w1, w2, w3, w4, w5, w6, w7, v1, v2, v3, v4, v5, v6, if_true, bne_self_eq_false, Bool.false_eq_true, if_false]
      have := ih (m + 7) ⟨by omega, by omega, h6⟩
      rw [this]
      congr 1
      omega)
    (fun k m hI => by
      simp only [laws_heldGrantS.l0]
      rw [if_neg (by omega)]
      simp)
  unfold laws_heldGrantS.f
  have := loop_from L k hk 1 ⟨by omega, by omega, by simp⟩
  try simp only at this
  rw [this]
  simp


theorem spec_lend (k : Nat) (e o s t : Int) (hk : 10 < k) : spec_LendGrants.f k e o s t = some (lendM e o s t) := by
  obtain ⟨k, rfl⟩ : ∃ m, k = m + 5 := ⟨k - 5, by omega⟩
  unfold spec_LendGrants.f lendM
  simp only [spec_in, spec_sit, Option.bind_some]
  have w1 : wrap64 2 = 2 := wr (by omega) (by omega)
  have w2 : wrap64 3 = 3 := wr (by omega) (by omega)
  cases inR e 1 5 <;> cases isSit o s <;> cases inR t 0 9995 <;> simp [spec_LendGrants.j0, spec_LendGrants.l0, w1, w2]


theorem impl_lend (e o s t : Int) : impl_LendGrants.f e o s t = some (lendM e o s t) := by
  unfold impl_LendGrants.f lendM
  simp only [impl_in, impl_sit, Option.bind_some]
  cases inR e 1 5 <;> cases isSit o s <;> cases inR t 0 9995 <;> rfl


theorem FnExactLendGrants (e o s t : Int) (_ : (Lit.int .i64 e).wf = true) (_ : (Lit.int .i64 o).wf = true) (_ : (Lit.int .i64 s).wf = true) (_ : (Lit.int .i64 t).wf = true) : ∃ k, laws_FnExactLendGrants.f k e o s t = some true := by
  refine ⟨1000, ?_⟩
  unfold laws_FnExactLendGrants.f
  have hf := lendM_len e o s t
  simp (disch := omega) only [laws_toSite.f, Option.bind_some, spec_lend, impl_lend, eqGrantS_self, markGrantS_eq, heldGrantS_eq, if_true]
  rw [if_neg (by omega), if_neg (by omega)]

end Go.Proofs.Ytcobdjldjneeaaa.Pure
