/- The printed function of the law FnExactDropRules answers true, for all arguments, under no condition but that each whole number is one of its kind and that each slice has a length that fits. -/
import Derived.Test.YtbnkgcllfkicjaaQFnExactDropRulesx3
namespace Go.Proofs.Ytbnkgcllfkicjaa.Pure
open Go.RowKit Go.Proofs.Ytbnkgcllfkicjaa.QFnExactDropRules Go.Proofs.YtbnkgcllfkicjaaW.PrintWords Go.Proofs.YtbnkgcllfkicjaaW.PrintLast
set_option linter.unusedVariables false
set_option linter.unusedSimpArgs false
theorem wr {i : Int} (h0 : -9223372036854775808 ≤ i) (h1 : i ≤ 9223372036854775807) : wrap64 i = i := by unfold wrap64; omega
theorem beq_dec (a b : Int) : (a == b) = decide (a = b) := by by_cases h : a = b <;> simp [h]
theorem and_if (p : Prop) [Decidable p] (c : Bool) : (if p then some c else some false) = some (decide p && c) := by
  by_cases h : p <;> simp [h]
theorem or_if (p : Prop) [Decidable p] (c : Bool) : (if p then some true else some c) = some (decide p || c) := by
  by_cases h : p <;> simp [h]
def inR (a b c : Int) : Bool := decide (b ≤ a) && decide (a ≤ c)
def isPat (o s : Int) : Bool := inR o 0 9 && inR s (-1) 9
def isSit (o s : Int) : Bool := inR o 1 9 && inR s 0 9
def mtch (po ps o s : Int) : Bool := isPat po ps && (isSit o s && ((decide (po = 0) || decide (po = o)) && (decide (ps = -1) || decide (ps = s))))
def narr (po ps qo qs : Int) : Bool := isPat po ps && (isPat qo qs && ((decide (qo = 0) || decide (po = qo)) && (decide (qs = -1) || decide (ps = qs))))
def isGra (e po ps k f u : Int) : Bool := inR e 1 5 && (isPat po ps && (inR k 1 4 && (decide (0 ≤ f) && (decide (f ≤ u) && decide (u ≤ 10000)))))
def isLim (e po ps k : Int) : Bool := inR e 0 5 && (isPat po ps && inR k 0 4)
def covr (e po ps k f u : Int) (cl : Bool) (ext o s kind tick : Int) (ck : Bool) : Bool :=
  isGra e po ps k f u && (decide (e = ext) && (decide (k = kind) && (mtch po ps o s && (inR tick f u && (ck || !cl)))))
def isRul (e p po ps s a o b : Int) : Bool :=
  inR e 1 5 && (inR p 1 9 && (isPat po ps && (inR s 0 4 && ((decide (a = 1) || decide (a = 2)) && (decide (o = 0) && decide (b = 0)) || decide (a = 3) && isSit o b))))
def isReq (o s t : Int) : Bool := isSit o s && inR t 1 4
def appl (e p po ps s a o b qo qs qt : Int) : Bool := isRul e p po ps s a o b && (isReq qo qs qt && (mtch po ps qo qs && (decide (s = 0) || decide (s = qt))))
def isLen (e po ps k f u : Int) (cl : Bool) : Bool := isGra e po ps k f u && (decide (po ≠ 0) && (decide (ps ≠ -1) && ((decide (k = 1) || decide (k = 2)) && (decide (u = f + 5) && !cl))))
def isLab (x : Int) : Bool := inR x 0 1022 && decide (Int.tmod x 2 = 0)
def befo (ae ap aa ao ab be bp ba bo bb : Int) : Bool :=
  if ap = bp then (if aa = ba then (if ae = be then (if ao = bo then decide (ab < bb) else decide (ao < bo)) else decide (ae < be)) else decide (aa < ba)) else decide (bp < ap)
def within (e po ps k f u : Int) (cl : Bool) (e' po' ps' k' f' u' : Int) (cl' : Bool) : Bool :=
  isGra e po ps k f u && (isGra e' po' ps' k' f' u' && (decide (e = e') && (decide (k = k') && (narr po ps po' ps' && (decide (f' ≤ f) && (decide (u ≤ u') && (cl || !cl')))))))
theorem take_set1 {α : Type} (s : List α) (i : Nat) (v : α) (h : i < s.length) : (s.set i v).take (i + 1) = s.take i ++ [v] := by
  rw [List.take_succ_eq_append_getElem (by simpa using h), List.take_set, List.set_eq_of_length_le (by simp; omega)]
  simp
theorem loop_up {σ ρ : Type} (g : Nat → σ → Int → Option ρ) (n : Nat) (out : σ → Nat → ρ) (I : σ → Nat → Prop) (hn : n ≤ 9223372036854775806)
    (hstep : ∀ (k : Nat) (s : σ) (i : Nat), i < n → I s i → (∀ s', I s' (i + 1) → g k s' (wrap64 ((i : Int) + 1)) = some (out s' (i + 1))) → g (k + 1) s (i : Int) = some (out s i))
    (hend : ∀ (k : Nat) (s : σ), I s n → g (k + 1) s (n : Int) = some (out s n)) :
    ∀ (d k : Nat) (s : σ) (i : Nat), i + d = n → d < k → I s i → g k s (i : Int) = some (out s i) := by
  intro d
  induction d with
  | zero =>
    intro k s i hi hk hI
    obtain ⟨k, rfl⟩ : ∃ m, k = m + 1 := ⟨k - 1, by omega⟩
    obtain rfl : i = n := by omega
    exact hend k s hI
  | succ d ih =>
    intro k s i hi hk hI
    obtain ⟨k, rfl⟩ : ∃ m, k = m + 1 := ⟨k - 1, by omega⟩
    refine hstep k s i (by omega) hI fun s' hI' => ?_
    have := ih k s' (i + 1) (by omega) (by omega) hI'
    rw [wr (by omega) (by omega)]
    exact_mod_cast this
theorem loop_from {σ ρ : Type} {g : Nat → σ → Int → Option ρ} {n : Nat} {out : σ → Nat → ρ} {I : σ → Nat → Prop} (h : ∀ (d k : Nat) (s : σ) (i : Nat), i + d = n → d < k → I s i → g k s (i : Int) = some (out s i))
    (k : Nat) (hk : n < k) (s : σ) (hI : I s 0) : g k s 0 = some (out s 0) := by
  have := h n k s 0 (by omega) hk hI
  exact_mod_cast this
theorem drop_at {α : Type} (xs : List α) (i : Nat) (h : i < xs.length) : xs.drop i = xs[i] :: xs.drop (i + 1) := List.drop_eq_getElem_cons h

theorem nlt {n : Nat} : ¬ (n : Int) < (n : Int) := by omega
/-- where a list is copied element by element into a made one -/
theorem rd_at {α : Type} (z : α) (xs : List α) (i : Nat) (h : i < xs.length) : xs.getD (i : Int).toNat z = xs[i] := by simp [h]
theorem szRule (xs : List S80) (a : Int) (h0 : 0 ≤ a) (h1 : a ≤ 1048576) (hl : xs.length ≤ 9223372036854775807) : laws_szRuleS.f xs a = some (if a < xs.length then -1 else a - xs.length) := by
  unfold laws_szRuleS.f
  rw [wr (by omega) (by omega)]
  by_cases h : a < xs.length
  · rw [if_pos (by omega), if_pos h]
  · rw [if_neg (by omega), if_neg h]

def cvSite (r : S24) : S29 := ⟨r.f0, r.f1⟩
theorem toSite_eq (a0 : Int) (a1 : Int) : laws_toSite.f a0 a1 = some (a0, a1) := by
  unfold laws_toSite.f; rfl

def cvRule (r : S80) : S77 := ⟨r.f0, r.f1, ⟨r.f2.f0, r.f2.f1⟩, r.f3, r.f4, ⟨r.f5.f0, r.f5.f1⟩⟩
theorem toRule_eq (a0 : Int) (a1 : Int) (a2 : Int) (a3 : Int) (a4 : Int) (a5 : Int) (a6 : Int) (a7 : Int) : laws_toRule.f a0 a1 a2 a3 a4 a5 a6 a7 = some (a0, a1, a2, a3, a4, a5, a6, a7) := by
  unfold laws_toRule.f laws_toPattern.f laws_toSite.f; rfl

theorem rdRule_l (xs : List S80) (i : Nat) (h : i < xs.length) : rd_T80 xs (i : Int) = xs[i] := rd_at _ xs i h
theorem toRuleS_eq (k : Nat) (xs : List S80) (hn : xs.length ≤ 1048576) (hk : xs.length < k) : laws_toRuleS.f k xs = some (xs.map cvRule) := by
  have L := loop_up (fun k (s : List S77) i => laws_toRuleS.l0 k xs s i) xs.length (fun s i => s.take i ++ (xs.drop i).map cvRule) (fun s _ => s.length = xs.length) (by omega)
    (fun k s i hi hI ih => by
      simp only [laws_toRuleS.l0]
      rw [if_pos (by omega), if_pos (by omega), rdRule_l xs i hi, toRule_eq]
      simp only [Option.bind_some]
      rw [if_pos (by omega), ih _ (by simp [hI]), Int.toNat_natCast, take_set1 _ _ _ (by omega), drop_at xs i hi, List.map_cons, List.append_assoc]
      rfl)
    (fun k s hI => by
      simp only [laws_toRuleS.l0]
      rw [if_neg nlt, List.drop_of_length_le (Nat.le_refl _), List.take_of_length_le (by omega)]
      simp)
  unfold laws_toRuleS.f
  rw [if_pos (by omega), if_pos (by omega)]
  rw [loop_from L k hk _ (by simp)]
  simp

theorem eqSite_self (a0 : Int) (a1 : Int) : laws_eqSite.f a0 a1 a0 a1 = some true := by
  simp [laws_eqSite.f]

theorem eqRule_self (a0 : Int) (a1 : Int) (a2 : Int) (a3 : Int) (a4 : Int) (a5 : Int) (a6 : Int) (a7 : Int) : laws_eqRule.f a0 a1 a2 a3 a4 a5 a6 a7 a0 a1 a2 a3 a4 a5 a6 a7 = some true := by
  simp [laws_eqRule.f, laws_eqPattern.f, laws_eqSite.f]

theorem rdRule_i (xs : List S77) (i : Nat) (h : i < xs.length) : rd_T77 xs (i : Int) = xs[i] := rd_at _ xs i h
theorem eqRuleS_self (k : Nat) (xs : List S77) (hn : xs.length ≤ 1048576) (hk : xs.length < k) : laws_eqRuleS.f k xs xs = some true := by
  have L := loop_up (fun k (_ : Unit) i => laws_eqRuleS.l0 k xs xs i) xs.length (fun _ _ => true) (fun _ _ => True) (by omega)
    (fun k s i hi hI ih => by
      simp only [laws_eqRuleS.l0]
      rw [if_pos (by omega), if_pos (by omega), if_pos (by omega)]
      simp only [eqRule_self, Option.bind_some, if_true]
      exact ih () trivial)
    (fun k s hI => by
      simp only [laws_eqRuleS.l0]
      rw [if_neg nlt])
  unfold laws_eqRuleS.f
  rw [if_pos rfl]
  exact loop_from L k hk () trivial

theorem spec_DropRules_eq (k : Nat) (xs : List S77) (x : Int) (hn : xs.length ≤ 1048576) (hk : xs.length < k) : spec_DropRules.f k xs x = some (xs.filter fun r => !decide (r.f0 = x)) := by
  have L := loop_up (fun k (s : List S77) i => spec_DropRules.l0 k xs x s i) xs.length (fun s i => s ++ (xs.drop i).filter fun r => !decide (r.f0 = x)) (fun s i => s.length ≤ i) (by omega)
    (fun k s i hi hI ih => by
      have hd := drop_at xs i hi
      have hr := rdRule_i xs i hi
      generalize xs[i] = r at hd hr
      simp only [spec_DropRules.l0]
      rw [if_pos (by omega), if_pos (by omega)]
      simp only [hr]
      rw [hd]
      by_cases hp : (!decide (r.f0 = x)) = true
      · have hp' := hp
        simp only [Bool.not_eq_true', decide_eq_false_iff_not] at hp; rw [if_neg hp]
        rw [if_pos (by omega), ih _ (by simp; omega)]
        simp only [List.filter_cons, hp', ↓reduceIte, List.append_assoc]
        rfl
      · have hp' := hp
        simp only [Bool.not_eq_true', decide_eq_false_iff_not, Decidable.not_not] at hp; rw [if_pos hp]
        rw [ih _ (by omega)]
        simp only [List.filter_cons, hp', ↓reduceIte, Bool.false_eq_true])
    (fun k s hI => by
      simp only [spec_DropRules.l0]
      rw [if_neg nlt, List.drop_of_length_le (Nat.le_refl _)]
      simp)
  unfold spec_DropRules.f
  rw [loop_from L k hk _ (by simp)]
  simp

theorem impl_DropRules_eq (k : Nat) (xs : List S77) (x : Int) (hn : xs.length ≤ 1048576) (hk : xs.length < k) : impl_DropRules.f k xs x = some (xs.filter fun r => !decide (r.f0 = x)) := by
  have L := loop_up (fun k (s : List S77) i => impl_DropRules.l0 k x s xs (xs.length : Int) i) xs.length (fun s i => s ++ (xs.drop i).filter fun r => !decide (r.f0 = x)) (fun s i => s.length ≤ i) (by omega)
    (fun k s i hi hI ih => by
      have hd := drop_at xs i hi
      have hr := rdRule_i xs i hi
      generalize xs[i] = r at hd hr
      simp only [impl_DropRules.l0]
      rw [if_pos (by omega), if_pos (by omega), if_pos (by omega)]
      simp only [hr]
      rw [hd]
      by_cases hp : (!decide (r.f0 = x)) = true
      · have hp' := hp
        simp only [Bool.not_eq_true', decide_eq_false_iff_not] at hp; rw [if_neg hp]
        rw [if_pos (by omega), ih _ (by simp; omega)]
        simp only [List.filter_cons, hp', ↓reduceIte, List.append_assoc]
        rfl
      · have hp' := hp
        simp only [Bool.not_eq_true', decide_eq_false_iff_not, Decidable.not_not] at hp; rw [if_pos hp]
        rw [ih _ (by omega)]
        simp only [List.filter_cons, hp', ↓reduceIte, Bool.false_eq_true])
    (fun k s hI => by
      simp only [impl_DropRules.l0]
      rw [if_neg nlt, List.drop_of_length_le (Nat.le_refl _)]
      simp)
  unfold impl_DropRules.f
  rw [loop_from L k hk _ (by simp)]
  simp

def mkRule : Int → List S77 → List S77
  | _, [] => []
  | m, x :: xs => ⟨m, m + 1, ⟨m + 2, m + 3⟩, m + 4, m + 5, ⟨m + 6, m + 7⟩⟩ :: mkRule (m + 8) xs
theorem mkRule_len : ∀ (xs : List S77) (m : Int), (mkRule m xs).length = xs.length
  | [], _ => rfl
  | x :: xs, m => by simp [mkRule, mkRule_len xs]
theorem rdRule_set (xs : List S77) (i : Nat) (v : S77) (h : i < xs.length) : rd_T77 (xs.set i v) (i : Int) = v := by
  rw [rdRule_i _ i (by simpa using h)]; simp
set_option maxHeartbeats 4000000 in
theorem markRuleS_eq (k : Nat) (xs : List S77) (hn : xs.length ≤ 1048576) (hk : xs.length < k) : laws_markRuleS.f k xs 1 = some (1 + 8 * (xs.length : Int), mkRule 1 xs) := by
  have L := loop_up (fun k (s : List S77 × Int) i => laws_markRuleS.l0 k s.1 s.2 i) xs.length (fun s i => (s.2 + 8 * ((xs.length - i : Nat) : Int), s.1.take i ++ mkRule s.2 (s.1.drop i))) (fun s i => s.1.length = xs.length ∧ 1 ≤ s.2 ∧ s.2 ≤ 1 + 8 * i) (by omega)
    (fun k s i hi hI ih => by
      obtain ⟨s, m⟩ := s
      obtain ⟨h1, h2, h3⟩ := hI
      simp only at h1 h2 h3
      simp only [laws_markRuleS.l0]
      rw [if_pos (by omega), if_pos (by omega)]
      have hw : ∀ j : Int, 0 ≤ j → j ≤ 10 → wrap64 (m + j) = m + j := fun j _ _ => wr (by omega) (by omega)
      have hv : ∀ j : Int, 0 ≤ j → j ≤ 9 → wrap64 (m + j + 1) = m + (j + 1) := fun j _ _ => by rw [Int.add_assoc]; exact hw (j + 1) (by omega) (by omega)
      have w1 : wrap64 (m + 1) = m + 1 := hw 1 (by decide) (by decide)
      have w2 : wrap64 (m + 2) = m + 2 := hw 2 (by decide) (by decide)
      have w3 : wrap64 (m + 3) = m + 3 := hw 3 (by decide) (by decide)
      have w4 : wrap64 (m + 4) = m + 4 := hw 4 (by decide) (by decide)
      have w5 : wrap64 (m + 5) = m + 5 := hw 5 (by decide) (by decide)
      have w6 : wrap64 (m + 6) = m + 6 := hw 6 (by decide) (by decide)
      have w7 : wrap64 (m + 7) = m + 7 := hw 7 (by decide) (by decide)
      have w8 : wrap64 (m + 8) = m + 8 := hw 8 (by decide) (by decide)
      have v1 : wrap64 (m + 1 + 1) = m + 2 := hv 1 (by decide) (by decide)
      have v2 : wrap64 (m + 2 + 1) = m + 3 := hv 2 (by decide) (by decide)
      have v3 : wrap64 (m + 3 + 1) = m + 4 := hv 3 (by decide) (by decide)
      have v4 : wrap64 (m + 4 + 1) = m + 5 := hv 4 (by decide) (by decide)
      have v5 : wrap64 (m + 5 + 1) = m + 6 := hv 5 (by decide) (by decide)
      have v6 : wrap64 (m + 6 + 1) = m + 7 := hv 6 (by decide) (by decide)
      have v7 : wrap64 (m + 7 + 1) = m + 8 := hv 7 (by decide) (by decide)
      clear hw hv
      simp only [Option.bind_some, Int.toNat_natCast, w1, w2, w3, w4, w5, w6, w7, w8, v1, v2, v3, v4, v5, v6, v7]
      simp only [rdRule_set _ _ _ (show i < (s.set i _).length by simp; omega), rdRule_set _ _ _ (show i < s.length by omega), List.set_set, rdRule_i s i (by omega)]
      have hd := drop_at s i (by omega)
      have := ih (s.set i (let x := s[i]; ⟨m, m + 1, ⟨m + 2, m + 3⟩, m + 4, m + 5, ⟨m + 6, m + 7⟩⟩), m + 8) (by simp; omega)
      simp only at this
      rw [this]
      rw [take_set1 _ _ _ (by omega), hd]
      simp only [mkRule, List.append_assoc, List.singleton_append, List.cons_append, List.nil_append]
      congr 2
      · omega
      · simp [List.drop_set]
    )
    (fun k s hI => by
      simp only [laws_markRuleS.l0]
      rw [if_neg (by omega), List.drop_of_length_le (by omega), List.take_of_length_le (by omega)]
      simp [mkRule])
  unfold laws_markRuleS.f
  have := loop_from L k hk (xs, 1) (by simp)
  try simp only at this
  rw [this]
  simp

set_option maxHeartbeats 4000000 in
theorem heldRuleS_eq (k : Nat) (xs : List S77) (hn : xs.length ≤ 1048576) (hk : xs.length < k) : laws_heldRuleS.f k (mkRule 1 xs) 1 = some (1 + 8 * (xs.length : Int)) := by
  have hl := mkRule_len xs 1
  have L := loop_up (fun k (m : Int) i => laws_heldRuleS.l0 k (mkRule 1 xs) m i) xs.length (fun m i => m + 8 * ((xs.length - i : Nat) : Int)) (fun m i => 1 ≤ m ∧ m ≤ 1 + 8 * i ∧ (mkRule 1 xs).drop i = mkRule m (xs.drop i)) (by omega)
    (fun k m i hi hI ih => by
      obtain ⟨h2, h3, h4⟩ := hI
      have hd := drop_at (mkRule 1 xs) i (by omega)
      have hx := drop_at xs i hi
      have hr := rdRule_i (mkRule 1 xs) i (by omega)
      rw [hd, hx] at h4
      simp only [mkRule, List.cons.injEq] at h4
      obtain ⟨h5, h6⟩ := h4
      rw [h5] at hr
      simp only [laws_heldRuleS.l0]
      rw [if_pos (by omega), if_pos (by omega)]
      have hw : ∀ j : Int, 0 ≤ j → j ≤ 10 → wrap64 (m + j) = m + j := fun j _ _ => wr (by omega) (by omega)
      have hv : ∀ j : Int, 0 ≤ j → j ≤ 9 → wrap64 (m + j + 1) = m + (j + 1) := fun j _ _ => by rw [Int.add_assoc]; exact hw (j + 1) (by omega) (by omega)
      have w1 : wrap64 (m + 1) = m + 1 := hw 1 (by decide) (by decide)
      have w2 : wrap64 (m + 2) = m + 2 := hw 2 (by decide) (by decide)
      have w3 : wrap64 (m + 3) = m + 3 := hw 3 (by decide) (by decide)
      have w4 : wrap64 (m + 4) = m + 4 := hw 4 (by decide) (by decide)
      have w5 : wrap64 (m + 5) = m + 5 := hw 5 (by decide) (by decide)
      have w6 : wrap64 (m + 6) = m + 6 := hw 6 (by decide) (by decide)
      have w7 : wrap64 (m + 7) = m + 7 := hw 7 (by decide) (by decide)
      have w8 : wrap64 (m + 8) = m + 8 := hw 8 (by decide) (by decide)
      have v1 : wrap64 (m + 1 + 1) = m + 2 := hv 1 (by decide) (by decide)
      have v2 : wrap64 (m + 2 + 1) = m + 3 := hv 2 (by decide) (by decide)
      have v3 : wrap64 (m + 3 + 1) = m + 4 := hv 3 (by decide) (by decide)
      have v4 : wrap64 (m + 4 + 1) = m + 5 := hv 4 (by decide) (by decide)
      have v5 : wrap64 (m + 5 + 1) = m + 6 := hv 5 (by decide) (by decide)
      have v6 : wrap64 (m + 6 + 1) = m + 7 := hv 6 (by decide) (by decide)
      have v7 : wrap64 (m + 7 + 1) = m + 8 := hv 7 (by decide) (by decide)
      clear hw hv
      simp only [hr, w1, w2, w3, w4, w5, w6, w7, w8, v1, v2, v3, v4, v5, v6, v7, if_true, bne_self_eq_false, Bool.false_eq_true, if_false]
      have := ih (m + 8) ⟨by omega, by omega, h6⟩
      rw [this]
      congr 1
      omega)
    (fun k m hI => by
      simp only [laws_heldRuleS.l0]
      rw [if_neg (by omega)]
      simp)
  unfold laws_heldRuleS.f
  have := loop_from L k hk 1 ⟨by omega, by omega, by simp⟩
  try simp only at this
  rw [this]
  simp


theorem FnExactDropRules (l : List S80) (x : Int) (hm : l.length ≤ 9223372036854775807) {g : S80 → Prop} (hg : ∀ y ∈ l, g y) (_ : (Lit.int .i64 x).wf = true) : ∃ k, laws_FnExactDropRules.f k l x = some true := by
  refine ⟨l.length + 10, ?_⟩
  unfold laws_FnExactDropRules.f
  rw [szRule l 1048576 (by omega) (by omega) hm]
  simp only [Option.bind_some]
  by_cases hb : (1048576 : Int) < l.length
  · rw [if_pos hb, if_pos (by omega)]
  · rw [if_neg hb, if_neg (by omega)]
    have hl : l.length ≤ 1048576 := by omega
    have hc : (l.map cvRule).length = l.length := by simp
    have hf : ((l.map cvRule).filter fun r => !decide (r.f0 = x)).length ≤ l.length := by
      have := List.length_filter_le (fun r => !decide (r.f0 = x)) (l.map cvRule); omega
    simp (disch := omega) only [toRuleS_eq, spec_DropRules_eq, impl_DropRules_eq, Option.bind_some, eqRuleS_self, markRuleS_eq, if_true]
    rw [if_neg (by omega)]
    simp (disch := omega) only [laws_FnExactDropRules.j0, Bool.not_true, Bool.false_eq_true, if_false, toRuleS_eq, impl_DropRules_eq, Option.bind_some, eqRuleS_self, markRuleS_eq, heldRuleS_eq, if_true]
    rw [if_neg (by omega), if_neg (by omega)]

end Go.Proofs.Ytbnkgcllfkicjaa.Pure
