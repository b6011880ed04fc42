/- The printed function of the law FnExactCompileRules answers true, for all arguments, under no condition but that each whole number is one of its kind and that each slice has a length that fits. -/
import Derived.Test.YtepndcpncndjdaaQSx41
namespace Go.Proofs.Ytepndcpncndjdaa.Pure
open Go.RowKit Go.Proofs.Ytepndcpncndjdaa.QS Go.Proofs.YtepndcpncndjdaaW.PrintWords Go.Proofs.YtepndcpncndjdaaW.PrintLast
set_option linter.unusedVariables false
set_option linter.unusedSimpArgs false
theorem wr {i : Int} (h0 : -9223372036854775808 ≤ i) (h1 : i ≤ 9223372036854775807) : wrap64 i = i := by unfold wrap64; omega
theorem beq_dec (a b : Int) : (a == b) = decide (a = b) := by by_cases h : a = b <;> simp [h]
theorem and_if (p : Prop) [Decidable p] (c : Bool) : (if p then some c else some false) = some (decide p && c) := by
  by_cases h : p <;> simp [h]
theorem or_if (p : Prop) [Decidable p] (c : Bool) : (if p then some true else some c) = some (decide p || c) := by
  by_cases h : p <;> simp [h]
def inR (a b c : Int) : Bool := decide (b ≤ a) && decide (a ≤ c)
def isPat (o s : Int) : Bool := inR o 0 9 && inR s (-1) 9
def isSit (o s : Int) : Bool := inR o 1 9 && inR s 0 9
def mtch (po ps o s : Int) : Bool := isPat po ps && (isSit o s && ((decide (po = 0) || decide (po = o)) && (decide (ps = -1) || decide (ps = s))))
def narr (po ps qo qs : Int) : Bool := isPat po ps && (isPat qo qs && ((decide (qo = 0) || decide (po = qo)) && (decide (qs = -1) || decide (ps = qs))))
def isGra (e po ps k f u : Int) : Bool := inR e 1 5 && (isPat po ps && (inR k 1 4 && (decide (0 ≤ f) && (decide (f ≤ u) && decide (u ≤ 10000)))))
def isLim (e po ps k : Int) : Bool := inR e 0 5 && (isPat po ps && inR k 0 4)
def covr (e po ps k f u : Int) (cl : Bool) (ext o s kind tick : Int) (ck : Bool) : Bool :=
  isGra e po ps k f u && (decide (e = ext) && (decide (k = kind) && (mtch po ps o s && (inR tick f u && (ck || !cl)))))
def isRul (e p po ps s a o b : Int) : Bool :=
  inR e 1 5 && (inR p 1 9 && (isPat po ps && (inR s 0 4 && ((decide (a = 1) || decide (a = 2)) && (decide (o = 0) && decide (b = 0)) || decide (a = 3) && isSit o b))))
def isReq (o s t : Int) : Bool := isSit o s && inR t 1 4
def appl (e p po ps s a o b qo qs qt : Int) : Bool := isRul e p po ps s a o b && (isReq qo qs qt && (mtch po ps qo qs && (decide (s = 0) || decide (s = qt))))
def isLen (e po ps k f u : Int) (cl : Bool) : Bool := isGra e po ps k f u && (decide (po ≠ 0) && (decide (ps ≠ -1) && ((decide (k = 1) || decide (k = 2)) && (decide (u = f + 5) && !cl))))
def isLab (x : Int) : Bool := inR x 0 1022 && decide (Int.tmod x 2 = 0)
def befo (ae ap aa ao ab be bp ba bo bb : Int) : Bool :=
  if ap = bp then (if aa = ba then (if ae = be then (if ao = bo then decide (ab < bb) else decide (ao < bo)) else decide (ae < be)) else decide (aa < ba)) else decide (bp < ap)
def within (e po ps k f u : Int) (cl : Bool) (e' po' ps' k' f' u' : Int) (cl' : Bool) : Bool :=
  isGra e po ps k f u && (isGra e' po' ps' k' f' u' && (decide (e = e') && (decide (k = k') && (narr po ps po' ps' && (decide (f' ≤ f) && (decide (u ≤ u') && (cl || !cl')))))))
theorem take_set1 {α : Type} (s : List α) (i : Nat) (v : α) (h : i < s.length) : (s.set i v).take (i + 1) = s.take i ++ [v] := by
  rw [List.take_succ_eq_append_getElem (by simpa using h), List.take_set, List.set_eq_of_length_le (by simp; omega)]
  simp
theorem loop_up {σ ρ : Type} (g : Nat → σ → Int → Option ρ) (n : Nat) (out : σ → Nat → ρ) (I : σ → Nat → Prop) (hn : n ≤ 9223372036854775806)
    (hstep : ∀ (k : Nat) (s : σ) (i : Nat), i < n → I s i → (∀ s', I s' (i + 1) → g k s' (wrap64 ((i : Int) + 1)) = some (out s' (i + 1))) → g (k + 1) s (i : Int) = some (out s i))
    (hend : ∀ (k : Nat) (s : σ), I s n → g (k + 1) s (n : Int) = some (out s n)) :
    ∀ (d k : Nat) (s : σ) (i : Nat), i + d = n → d < k → I s i → g k s (i : Int) = some (out s i) := by
  intro d
  induction d with
  | zero =>
    intro k s i hi hk hI
    obtain ⟨k, rfl⟩ : ∃ m, k = m + 1 := ⟨k - 1, by omega⟩
    obtain rfl : i = n := by omega
    exact hend k s hI
  | succ d ih =>
    intro k s i hi hk hI
    obtain ⟨k, rfl⟩ : ∃ m, k = m + 1 := ⟨k - 1, by omega⟩
    refine hstep k s i (by omega) hI fun s' hI' => ?_
    have := ih k s' (i + 1) (by omega) (by omega) hI'
    rw [wr (by omega) (by omega)]
    exact_mod_cast this
theorem loop_from {σ ρ : Type} {g : Nat → σ → Int → Option ρ} {n : Nat} {out : σ → Nat → ρ} {I : σ → Nat → Prop} (h : ∀ (d k : Nat) (s : σ) (i : Nat), i + d = n → d < k → I s i → g k s (i : Int) = some (out s i))
    (k : Nat) (hk : n < k) (s : σ) (hI : I s 0) : g k s 0 = some (out s 0) := by
  have := h n k s 0 (by omega) hk hI
  exact_mod_cast this
theorem drop_at {α : Type} (xs : List α) (i : Nat) (h : i < xs.length) : xs.drop i = xs[i] :: xs.drop (i + 1) := List.drop_eq_getElem_cons h

theorem nlt {n : Nat} : ¬ (n : Int) < (n : Int) := by omega
/-- where a list is copied element by element into a made one -/
theorem rd_at {α : Type} (z : α) (xs : List α) (i : Nat) (h : i < xs.length) : xs.getD (i : Int).toNat z = xs[i] := by simp [h]

theorem loop_upm {σ ρ : Type} (m : Nat) (g : Nat → σ → Int → Option ρ) (n : Nat) (out : σ → Nat → ρ) (I : σ → Nat → Prop) (hn : n ≤ 9223372036854775806)
    (hstep : ∀ (k : Nat) (s : σ) (i : Nat), m ≤ k → i < n → I s i → (∀ s', I s' (i + 1) → g k s' (wrap64 ((i : Int) + 1)) = some (out s' (i + 1))) → g (k + 1) s (i : Int) = some (out s i))
    (hend : ∀ (k : Nat) (s : σ), m ≤ k → I s n → g (k + 1) s (n : Int) = some (out s n)) :
    ∀ (d k : Nat) (s : σ) (i : Nat), i + d = n → d + m < k → I s i → g k s (i : Int) = some (out s i) := by
  intro d
  induction d with
  | zero =>
    intro k s i hi hk hI
    obtain ⟨k, rfl⟩ : ∃ m, k = m + 1 := ⟨k - 1, by omega⟩
    obtain rfl : i = n := by omega
    exact hend k s (by omega) hI
  | succ d ih =>
    intro k s i hi hk hI
    obtain ⟨k, rfl⟩ : ∃ m, k = m + 1 := ⟨k - 1, by omega⟩
    refine hstep k s i (by omega) (by omega) hI fun s' hI' => ?_
    have := ih k s' (i + 1) (by omega) (by omega) hI'
    rw [wr (by omega) (by omega)]
    exact_mod_cast this
theorem loop_fromm {σ ρ : Type} {m : Nat} {g : Nat → σ → Int → Option ρ} {n : Nat} {out : σ → Nat → ρ} {I : σ → Nat → Prop} (h : ∀ (d k : Nat) (s : σ) (i : Nat), i + d = n → d + m < k → I s i → g k s (i : Int) = some (out s i))
    (k : Nat) (hk : n + m < k) (s : σ) (hI : I s 0) : g k s 0 = some (out s 0) := by
  have := h n k s 0 (by omega) hk hI
  exact_mod_cast this
theorem loop_run {σ ρ : Type} (m : Nat) (g : Nat → σ → Int → Option ρ) (n : Nat) (out : σ → Nat → ρ) (I : σ → Nat → Prop) (hn : n ≤ 9223372036854775806)
    (hstep : ∀ (k : Nat) (s : σ) (i : Nat), m ≤ k → i < n → I s i → (∀ s', I s' (i + 1) → g k s' (wrap64 ((i : Int) + 1)) = some (out s' (i + 1))) → g (k + 1) s (i : Int) = some (out s i))
    (hend : ∀ (k : Nat) (s : σ), m ≤ k → I s n → g (k + 1) s (n : Int) = some (out s n)) (k : Nat) (hk : n + m < k) (s : σ) (hI : I s 0) : g k s 0 = some (out s 0) :=
  loop_fromm (loop_upm m g n out I hn hstep hend) k hk s hI
theorem if_and2 {α : Type} (a : Bool) (p : Prop) [Decidable p] (x y : α) : (if a = true then (if p then x else y) else y) = if (a && decide p) = true then x else y := by
  cases a <;> by_cases h : p <;> simp [h]

theorem if_nand {α : Type} (a b : Bool) (x y : α) : (if a = true then (if b = true then y else x) else x) = if (!(a && b)) = true then x else y := by
  cases a <;> cases b <;> simp
theorem rdPattern_i (xs : List S35) (i : Nat) (h : i < xs.length) : rd_T35 xs (i : Int) = xs[i] := rd_at _ xs i h
theorem rdSite_i (xs : List S26) (i : Nat) (h : i < xs.length) : rd_T26 xs (i : Int) = xs[i] := rd_at _ xs i h
theorem rdRule_i (xs : List S37) (i : Nat) (h : i < xs.length) : rd_T37 xs (i : Int) = xs[i] := rd_at _ xs i h
theorem rdPattern_l (xs : List S70) (i : Nat) (h : i < xs.length) : rd_T70 xs (i : Int) = xs[i] := rd_at _ xs i h
theorem rdSite_l (xs : List S71) (i : Nat) (h : i < xs.length) : rd_T71 xs (i : Int) = xs[i] := rd_at _ xs i h
theorem rdRule_l (xs : List S73) (i : Nat) (h : i < xs.length) : rd_T73 xs (i : Int) = xs[i] := rd_at _ xs i h

def vR (r : S37) : Bool := isRul r.f0 r.f1 r.f2.f0 r.f2.f1 r.f3 r.f4 r.f5.f0 r.f5.f1
def sortR (xs : List S37) : List S37 := Stab.isort (ltOf cfR) (xs.filter vR)
theorem sortR_len (xs : List S37) : (sortR xs).length ≤ xs.length := by unfold sortR; rw [Stab.isort_len]; exact List.length_filter_le _ _
theorem befo_cf (x y : S37) : befo x.f0 x.f1 x.f4 x.f5.f0 x.f5.f1 y.f0 y.f1 y.f4 y.f5.f0 y.f5.f1 = ltOf cfR x y := by
  have hn : ∀ a b : Int, (cmpI a b < 0 ↔ a < b) ∧ (cmpI a b = 0 ↔ a = b) := fun a b => by
    unfold cmpI
    constructor
    · repeat' split
      all_goals omega
    · repeat' split
      all_goals omega
  have h0 : ∀ a b : Int, a = 0 → orI a b = b := fun a b h => if_pos h
  have h1 : ∀ a b : Int, ¬ a = 0 → orI a b = a := fun a b h => if_neg h
  unfold befo ltOf cfR
  by_cases c1 : x.f1 = y.f1
  · rw [if_pos c1, h0 _ _ ((hn _ _).2.2 c1.symm)]
    by_cases c2 : x.f4 = y.f4
    · rw [if_pos c2, h0 _ _ ((hn _ _).2.2 c2)]
      by_cases c3 : x.f0 = y.f0
      · rw [if_pos c3, h0 _ _ ((hn _ _).2.2 c3)]
        by_cases c4 : x.f5.f0 = y.f5.f0
        · rw [if_pos c4, h0 _ _ ((hn _ _).2.2 c4)]
          exact decide_eq_decide.2 (hn _ _).1.symm
        · rw [if_neg c4, h1 _ _ (fun h => c4 ((hn _ _).2.1 h))]
          exact decide_eq_decide.2 (hn _ _).1.symm
      · rw [if_neg c3, h1 _ _ (fun h => c3 ((hn _ _).2.1 h))]
        exact decide_eq_decide.2 (hn _ _).1.symm
    · rw [if_neg c2, h1 _ _ (fun h => c2 ((hn _ _).2.1 h))]
      exact decide_eq_decide.2 (hn _ _).1.symm
  · rw [if_neg c1, h1 _ _ (fun h => c1 ((hn _ _).2.1 h).symm)]
    exact decide_eq_decide.2 (hn _ _).1.symm

def ownA (s : List S37) : List S37 := s.filter fun r => decide (r.f2.f0 = 0)
def ownB (s : List S37) : List (List S37) := (List.range 9).map fun i => s.filter fun r => decide (r.f2.f0 = ((i + 1 : Nat) : Int))
theorem ownB_len (s : List S37) : (ownB s).length = 9 := by simp [ownB]
theorem ownB_at (s : List S37) (i : Nat) (h : i < (ownB s).length) : (ownB s)[i] = s.filter fun r => decide (r.f2.f0 = ((i + 1 : Nat) : Int)) := by
  simp [ownB]
theorem rdB_at (s : List S37) (o : Int) (h0 : 1 ≤ o) (h1 : o ≤ 9) : rd_L7 (ownB s) (o - 1) = s.filter fun r => decide (r.f2.f0 = o) := by
  have hl : (o - 1).toNat < (ownB s).length := by rw [ownB_len]; omega
  have e := rd_at ([] : List S37) (ownB s) (o - 1).toNat hl
  rw [show (((o - 1).toNat : Nat) : Int) = o - 1 by omega] at e
  unfold rd_L7
  rw [e, ownB_at]
  rw [show (((o - 1).toNat + 1 : Nat) : Int) = o by omega]
theorem vR_own (r : S37) (h : vR r = true) : 0 ≤ r.f2.f0 ∧ r.f2.f0 ≤ 9 := by
  unfold vR isRul isPat inR at h
  simp only [Bool.and_eq_true, decide_eq_true_eq] at h
  exact h.2.2.1.1
theorem ownA_mem (s : List S37) (r : S37) : r ∈ ownA s ↔ r ∈ s ∧ r.f2.f0 = 0 := by
  unfold ownA; rw [List.mem_filter, decide_eq_true_eq]
theorem ownA_le (s : List S37) : (ownA s).length ≤ s.length := List.length_filter_le _ _
theorem ownB_le (s : List S37) : ∀ y ∈ ownB s, y.length ≤ s.length := by
  intro y hy
  unfold ownB at hy
  obtain ⟨i, _, rfl⟩ := List.mem_map.1 hy
  exact List.length_filter_le _ _

theorem szRule (xs : List S73) (a : Int) (h0 : 0 ≤ a) (h1 : a ≤ 1048576) (hl : xs.length ≤ 9223372036854775807) : laws_szRuleS.f xs a = some (if a < xs.length then -1 else a - xs.length) := by
  unfold laws_szRuleS.f
  rw [wr (by omega) (by omega)]
  by_cases h : a < xs.length
  · rw [if_pos (by omega), if_pos h]
  · rw [if_neg (by omega), if_neg h]

theorem toSite_eq (a0 : Int) (a1 : Int) : laws_toSite.f a0 a1 = some (a0, a1) := by
  unfold laws_toSite.f; rfl

theorem toRule_eq (a0 : Int) (a1 : Int) (a2 : Int) (a3 : Int) (a4 : Int) (a5 : Int) (a6 : Int) (a7 : Int) : laws_toRule.f a0 a1 a2 a3 a4 a5 a6 a7 = some (a0, a1, a2, a3, a4, a5, a6, a7) := by
  unfold laws_toRule.f laws_toPattern.f laws_toSite.f; rfl

def cvRule (r : S73) : S37 := ⟨r.f0, r.f1, ⟨r.f2.f0, r.f2.f1⟩, r.f3, r.f4, ⟨r.f5.f0, r.f5.f1⟩⟩
theorem toRuleS_eq (k : Nat) (xs : List S73) (hn : xs.length ≤ 1048576) (hk : xs.length < k) : laws_toRuleS.f k xs = some (xs.map cvRule) := by
  have L := loop_up (fun k (s : List S37) i => laws_toRuleS.l0 k xs s i) xs.length (fun s i => s.take i ++ (xs.drop i).map cvRule) (fun s _ => s.length = xs.length) (by omega)
    (fun k s i hi hI ih => by
      simp only [laws_toRuleS.l0]
      rw [if_pos (by omega), if_pos (by omega), rdRule_l xs i hi, toRule_eq]
      simp only [Option.bind_some]
      rw [if_pos (by omega), ih _ (by simp [hI]), Int.toNat_natCast, take_set1 _ _ _ (by omega), drop_at xs i hi, List.map_cons, List.append_assoc]
      rfl)
    (fun k s hI => by
      simp only [laws_toRuleS.l0]
      rw [if_neg nlt, List.drop_of_length_le (Nat.le_refl _), List.take_of_length_le (by omega)]
      simp)
  unfold laws_toRuleS.f
  rw [if_pos (by omega), if_pos (by omega)]
  rw [loop_from L k hk _ (by simp)]
  simp

theorem eqSite_self (a0 : Int) (a1 : Int) : laws_eqSite.f a0 a1 a0 a1 = some true := by
  simp [laws_eqSite.f]

theorem spec_in (a b c : Int) : spec_l1In.f a b c = some (inR a b c) := by
  unfold spec_l1In.f inR; exact and_if _ _

theorem spec_pat (a b : Int) : spec_IsPattern.f a b = some (isPat a b) := by
  unfold spec_IsPattern.f isPat; simp only [spec_in, Option.bind_some]; cases inR a 0 9 <;> simp

theorem spec_sit (a b : Int) : spec_IsSite.f a b = some (isSit a b) := by
  unfold spec_IsSite.f isSit; simp only [spec_in, Option.bind_some]; cases inR a 1 9 <;> simp

theorem spec_befo (a0 a1 a2 a3 a4 a5 a6 a7 b0 b1 b2 b3 b4 b5 b6 b7 : Int) : spec_IsBefore.f a0 a1 a2 a3 a4 a5 a6 a7 b0 b1 b2 b3 b4 b5 b6 b7 = some (befo a0 a1 a5 a6 a7 b0 b1 b5 b6 b7) := by
  unfold spec_IsBefore.f befo
  by_cases h1 : a1 = b1 <;> by_cases h2 : a5 = b5 <;> by_cases h3 : a0 = b0 <;> by_cases h4 : a6 = b6 <;> simp [h1, h2, h3, h4]

theorem eqRule_self (a0 : Int) (a1 : Int) (a2 : Int) (a3 : Int) (a4 : Int) (a5 : Int) (a6 : Int) (a7 : Int) : laws_eqRule.f a0 a1 a2 a3 a4 a5 a6 a7 a0 a1 a2 a3 a4 a5 a6 a7 = some true := by
  simp [laws_eqRule.f, laws_eqPattern.f, laws_eqSite.f]

theorem eqRuleS_self (k : Nat) (xs : List S37) (hn : xs.length ≤ 1048576) (hk : xs.length < k) : laws_eqRuleS.f k xs xs = some true := by
  have L := loop_up (fun k (_ : Unit) i => laws_eqRuleS.l0 k xs xs i) xs.length (fun _ _ => true) (fun _ _ => True) (by omega)
    (fun k s i hi hI ih => by
      simp only [laws_eqRuleS.l0]
      rw [if_pos (by omega), if_pos (by omega), if_pos (by omega)]
      simp only [eqRule_self, Option.bind_some, if_true]
      exact ih () trivial)
    (fun k s hI => by
      simp only [laws_eqRuleS.l0]
      rw [if_neg nlt])
  unfold laws_eqRuleS.f
  rw [if_pos rfl]
  exact loop_from L k hk () trivial

theorem impl_in (a b c : Int) : impl_InRange.f a b c = some (inR a b c) := by
  unfold impl_InRange.f inR; exact and_if _ _

theorem impl_pat (a b : Int) : impl_IsPattern.f a b = some (isPat a b) := by
  unfold impl_IsPattern.f isPat; simp only [impl_in, Option.bind_some]; cases inR a 0 9 <;> simp

theorem impl_sit (a b : Int) : impl_IsSite.f a b = some (isSit a b) := by
  unfold impl_IsSite.f isSit; simp only [impl_in, Option.bind_some]; cases inR a 1 9 <;> simp

theorem impl_rul (n : Nat) (e p po ps s a o b : Int) : impl_IsRule.f (n + 2) e p po ps s a o b = some (isRul e p po ps s a o b) := by
  unfold impl_IsRule.f isRul; simp only [impl_in, impl_pat, Option.bind_some, impl_IsRule.j0, impl_IsRule.j1, impl_sit]
  cases inR e 1 5 <;> cases inR p 1 9 <;> cases isPat po ps <;> cases inR s 0 4 <;> simp
  by_cases h1 : a = 1
  · subst h1; simp [beq_dec]
  · by_cases h2 : a = 2
    · subst h2; simp [beq_dec]
    · by_cases h3 : a = 3
      · subst h3; simp
      · simp [h1, h2, h3]


theorem impl_SortRules_eq (k : Nat) (xs : List S37) (hn : xs.length ≤ 1048576) (hk : xs.length + 2 < k) : impl_SortRules.f k xs = some (sortR xs) := by
  have L := loop_run 2 (fun k (s : List S37) i => impl_SortRules.l0 k s xs (xs.length : Int) i) xs.length (fun s i => Stab.isort (ltOf cfR) (s ++ (xs.drop i).filter vR)) (fun s i => s.length ≤ i) (by omega)
    (fun k s i hm hi hI ih => by
      have hd := drop_at xs i hi
      have hr := rdRule_i xs i hi
      generalize xs[i] = r at hd hr
      simp only [impl_SortRules.l0]
      obtain ⟨k, rfl⟩ : ∃ z, k = z + 2 := ⟨k - 2, by omega⟩
      rw [if_pos (by omega), if_pos (by omega), if_pos (by omega)]
      simp only [hr, impl_rul, Option.bind_some]
      rw [hd]
      by_cases hp : vR r = true
      · have hp' := hp
        unfold vR at hp
        rw [if_pos hp, if_pos (by omega), ih _ (by simp; omega)]
        simp only [List.filter_cons, hp', ↓reduceIte, List.append_assoc]
        rfl
      · have hp' := hp
        unfold vR at hp
        rw [if_neg hp, ih _ (by omega)]
        simp only [List.filter_cons, hp', ↓reduceIte, Bool.false_eq_true])
    (fun k s hm hI => by
      simp only [impl_SortRules.l0]
      rw [if_neg nlt, List.drop_of_length_le (Nat.le_refl _), if_pos (by omega)]
      simp) k hk [] (by simp)
  try dsimp only at L
  unfold impl_SortRules.f sortR
  rw [L]
  simp

theorem mem_insRev {α : Type} (lt : α → α → Bool) (x y : α) : ∀ S : List α, y ∈ Stab.insRev lt x S ↔ y = x ∨ y ∈ S
  | [] => by simp [Stab.insRev]
  | s :: S => by
    show y ∈ (if lt x s = true then s :: Stab.insRev lt x S else x :: s :: S) ↔ _
    by_cases h : lt x s = true
    · rw [if_pos h, List.mem_cons, mem_insRev lt x y S, List.mem_cons]
      constructor
      · rintro (h | h | h)
        · exact Or.inr (Or.inl h)
        · exact Or.inl h
        · exact Or.inr (Or.inr h)
      · rintro (h | h | h)
        · exact Or.inr (Or.inl h)
        · exact Or.inl h
        · exact Or.inr (Or.inr h)
    · rw [if_neg h, List.mem_cons]
theorem mem_insR {α : Type} (lt : α → α → Bool) (x y : α) (S : List α) : y ∈ Stab.insR lt x S ↔ y = x ∨ y ∈ S := by
  unfold Stab.insR
  rw [List.mem_reverse, mem_insRev, List.mem_reverse]
theorem mem_insFold {α : Type} (lt : α → α → Bool) (y : α) : ∀ L S : List α, y ∈ L.foldl (fun S x => Stab.insR lt x S) S ↔ y ∈ S ∨ y ∈ L
  | [], S => by simp
  | x :: L, S => by
    rw [List.foldl_cons, mem_insFold lt y L, mem_insR, List.mem_cons]
    constructor
    · rintro ((h | h) | h)
      · exact Or.inr (Or.inl h)
      · exact Or.inl h
      · exact Or.inr (Or.inr h)
    · rintro (h | h | h)
      · exact Or.inl (Or.inr h)
      · exact Or.inl (Or.inl h)
      · exact Or.inr h
theorem mem_sortR (xs : List S37) (r : S37) : r ∈ sortR xs ↔ r ∈ xs ∧ vR r = true := by
  unfold sortR Stab.isort
  rw [mem_insFold, List.mem_filter]
  simp

theorem ownA_snoc0 (t : List S37) (r : S37) (h : r.f2.f0 = 0) : ownA (t ++ [r]) = ownA t ++ [r] := by
  unfold ownA; rw [List.filter_append, List.filter_cons, if_pos (decide_eq_true h)]; rfl
theorem ownA_snoc1 (t : List S37) (r : S37) (h : ¬ r.f2.f0 = 0) : ownA (t ++ [r]) = ownA t := by
  unfold ownA; rw [List.filter_append, List.filter_cons, if_neg (by rw [decide_eq_false h]; decide)]; simp
theorem ownB_snoc0 (t : List S37) (r : S37) (h : r.f2.f0 = 0) : ownB (t ++ [r]) = ownB t := by
  unfold ownB
  refine List.map_congr_left fun i _ => ?_
  rw [List.filter_append, List.filter_cons, if_neg (by rw [decide_eq_false (by omega)]; decide)]; simp
theorem ownB_snoc1 (t : List S37) (r : S37) (h0 : 1 ≤ r.f2.f0) (h1 : r.f2.f0 ≤ 9) : (ownB t).set (r.f2.f0 - 1).toNat (rd_L7 (ownB t) (r.f2.f0 - 1) ++ [r]) = ownB (t ++ [r]) := by
  rw [rdB_at t r.f2.f0 h0 h1]
  apply List.ext_getElem
  · rw [List.length_set, ownB_len, ownB_len]
  · intro i hi hi'
    rw [List.getElem_set, ownB_at (t ++ [r]) i hi']
    rw [ownB_len] at hi'
    by_cases e : (r.f2.f0 - 1).toNat = i
    · rw [if_pos e, List.filter_append, List.filter_cons, if_pos (decide_eq_true (by omega))]
      rw [show ((i + 1 : Nat) : Int) = r.f2.f0 by omega]; rfl
    · rw [if_neg e, ownB_at, List.filter_append, List.filter_cons, if_neg (by rw [decide_eq_false (by omega)]; decide)]; simp
theorem comp_l1 (s : List S37) (hs : s.length ≤ 1048576) (hv : ∀ r ∈ s, 0 ≤ r.f2.f0 ∧ r.f2.f0 ≤ 9) : ∀ (d k i : Nat), i + d = s.length → d < k → impl_CompileRules.l1 k s (s.length : Int) (i : Int) (ownA (s.take i)) (ownB (s.take i)) = some (ownA s, ownB s) := by
  intro d
  induction d with
  | zero =>
    intro k i hi hk
    obtain ⟨k, rfl⟩ : ∃ m, k = m + 1 := ⟨k - 1, by omega⟩
    simp only [impl_CompileRules.l1]
    rw [if_neg (by omega), List.take_of_length_le (by omega)]
  | succ d ih =>
    intro k i hi hk
    obtain ⟨k, rfl⟩ : ∃ m, k = m + 1 := ⟨k - 1, by omega⟩
    have hil : i < s.length := by omega
    have hr := rdRule_i s i hil
    have ho := hv s[i] (List.getElem_mem hil)
    have ht : s.take (i + 1) = s.take i ++ [s[i]] := List.take_succ_eq_append_getElem hil
    have ih' := ih k (i + 1) (by omega) (by omega)
    have hla := ownA_le (s.take i)
    rw [List.length_take, Nat.min_eq_left (by omega)] at hla
    simp only [impl_CompileRules.l1, hr]
    rw [if_pos (by omega), if_pos (by omega), if_pos (by omega), wr (i := (i : Int) + 1) (by omega) (by omega), show (i : Int) + 1 = ((i + 1 : Nat) : Int) by omega]
    by_cases h0 : s[i].f2.f0 = 0
    · rw [if_pos h0, if_pos (by omega)]
      rw [ht, ownA_snoc0 _ _ h0, ownB_snoc0 _ _ h0] at ih'
      exact ih'
    · rw [if_neg h0, wr (i := s[i].f2.f0 - 1) (by omega) (by omega), if_pos (by omega), if_pos (by rw [ownB_len]; omega), if_pos (by
        rw [rdB_at _ _ (by omega) (by omega)]
        have := List.length_filter_le (fun r : S37 => decide (r.f2.f0 = s[i].f2.f0)) (s.take i)
        rw [List.length_take, Nat.min_eq_left (by omega)] at this
        omega)]
      rw [ht, ownA_snoc1 _ _ h0, ← ownB_snoc1 _ _ (by omega) (by omega)] at ih'
      exact ih'
theorem comp_l0 (xs : List S37) (hn : xs.length ≤ 1048576) : ∀ (d k i : Nat), i + d = 9 → d + xs.length + 5 < k → impl_CompileRules.l0 k xs 9 (i : Int) [] (List.replicate 9 []) = some (ownA (sortR xs), ownB (sortR xs)) := by
  intro d
  induction d with
  | zero =>
    intro k i hi hk
    obtain ⟨k, rfl⟩ : ∃ m, k = m + 1 := ⟨k - 1, by omega⟩
    have hl := sortR_len xs
    simp only [impl_CompileRules.l0]
    rw [if_neg (by omega), impl_SortRules_eq k xs hn (by omega), Option.bind_some]
    have := comp_l1 (sortR xs) (by omega) (fun r hr => vR_own r ((mem_sortR xs r).1 hr).2) (sortR xs).length k 0 (by omega) (by omega)
    exact this
  | succ d ih =>
    intro k i hi hk
    obtain ⟨k, rfl⟩ : ∃ m, k = m + 1 := ⟨k - 1, by omega⟩
    simp only [impl_CompileRules.l0]
    rw [if_pos (by omega), if_pos (by omega), if_pos (by rw [List.length_replicate]; omega), wr (i := (i : Int) + 1) (by omega) (by omega), show (i : Int) + 1 = ((i + 1 : Nat) : Int) by omega, List.set_replicate_self]
    exact ih k (i + 1) (by omega) (by omega)
theorem impl_CompileRules_eq (k : Nat) (xs : List S37) (hn : xs.length ≤ 1048576) (hk : xs.length + 15 < k) : impl_CompileRules.f k xs = some (ownA (sortR xs), ownB (sortR xs)) := by
  unfold impl_CompileRules.f
  rw [if_pos (by omega), Option.bind_some]
  have := comp_l0 xs hn 9 k 0 (by omega) (by omega)
  simpa using this

theorem spec_rul (e p po ps s a o b : Int) : spec_IsRule.f e p po ps s a o b = some (isRul e p po ps s a o b) := by
  unfold spec_IsRule.f isRul; simp only [spec_in, spec_pat, Option.bind_some, spec_sit]
  cases inR e 1 5 <;> cases inR p 1 9 <;> cases isPat po ps <;> cases inR s 0 4 <;> simp
  by_cases h1 : a = 1
  · subst h1; simp [beq_dec, inR]
  · by_cases h2 : a = 2
    · subst h2; simp [beq_dec, inR]
    · by_cases h3 : a = 3
      · subst h3; cases isSit o b <;> simp [inR]
      · have : inR a 1 3 = false := by unfold inR; simp; omega
        simp [h1, h2, h3, this]


theorem insRev_stop {α : Type} (lt : α → α → Bool) (x : α) : ∀ (A B : List α), (∀ s ∈ A, lt x s = true) → (∀ y, B.head? = some y → lt x y = false) → Stab.insRev lt x (A ++ B) = A ++ x :: B
  | [], [], _, _ => rfl
  | [], y :: B, _, h => by
    show (if lt x y = true then _ else _) = _
    rw [if_neg (by rw [h y rfl]; simp)]
    rfl
  | a :: A, B, h, hB => by
    show (if lt x a = true then _ else _) = _
    rw [if_pos (h a List.mem_cons_self)]
    show a :: Stab.insRev lt x (A ++ B) = _
    rw [insRev_stop lt x A B (fun s hs => h s (List.mem_cons_of_mem _ hs)) hB]
    rfl
theorem insR_at {α : Type} (lt : α → α → Bool) (x : α) (S : List α) (p : Nat) (hp : p ≤ S.length) (h1 : ∀ s ∈ S.drop p, lt x s = true) (h2 : ∀ q (hq : q < S.length), p = q + 1 → lt x S[q] = false) : Stab.insR lt x S = ((([] : List α) ++ S.take p) ++ [x]) ++ S.drop p := by
  unfold Stab.insR
  have e : S.reverse = (S.drop p).reverse ++ (S.take p).reverse := by rw [← List.reverse_append, List.take_append_drop]
  rw [e, insRev_stop lt x (S.drop p).reverse (S.take p).reverse (fun s hs => h1 s (List.mem_reverse.1 hs)) ?_]
  · simp
  · intro y hy
    rw [List.head?_reverse, List.getLast?_eq_getElem?, List.length_take, Nat.min_eq_left hp] at hy
    cases p with
    | zero => simp at hy
    | succ q =>
      have hq : q < S.length := by omega
      rw [List.getElem?_take_of_lt (by omega), show q + 1 - 1 = q by omega, List.getElem?_eq_getElem hq] at hy
      obtain rfl := Option.some.inj hy
      exact h2 q hq rfl
theorem spec_ins (xs S : List S37) (i B : Nat) (R : List S37) (hn : xs.length ≤ 1048576) (hi : i < xs.length) (hS : S.length ≤ 1048576)
    (H : ∀ k, B ≤ k → spec_SortRules.l0 k xs (Stab.insR (ltOf cfR) xs[i] S) (wrap64 ((i : Int) + 1)) = some R) :
    ∀ (p k : Nat), p ≤ S.length → B + p < k → (∀ s ∈ S.drop p, ltOf cfR xs[i] s = true) → spec_SortRules.l1 k xs S (i : Int) (p : Int) = some R := by
  have hr := rdRule_i xs i hi
  intro p
  induction p with
  | zero =>
    intro k hp hk hs
    obtain ⟨k, rfl⟩ : ∃ z, k = z + 1 := ⟨k - 1, by omega⟩
    have e := insR_at (ltOf cfR) xs[i] S 0 hp hs (fun q _ h => absurd h (by omega))
    have H1 := H k (by omega)
    rw [e] at H1
    simp only [spec_SortRules.l1, Option.bind_some, hr]
    rw [if_neg (by omega), if_pos (by omega), if_pos (by omega)]
    have hz : ((0 : Nat) : Int).toNat = 0 := rfl
    simp only [hz]
    rw [if_pos (by simp), if_pos (by omega), if_pos (by omega), if_pos (by simp), if_pos (by simp; omega)]
    exact H1
  | succ p ih =>
    intro k hp hk hs
    obtain ⟨k, rfl⟩ : ∃ z, k = z + 1 := ⟨k - 1, by omega⟩
    have hp' : p < S.length := by omega
    have hw : wrap64 (((p + 1 : Nat) : Int) - 1) = (p : Int) := by rw [wr (by omega) (by omega)]; omega
    have hq := rdRule_i S p hp'
    simp only [spec_SortRules.l1, hw]
    rw [if_pos (by omega), if_pos (by omega), if_pos (by omega), if_pos (by omega), if_pos (by omega)]
    simp only [spec_befo, Option.bind_some, hr, hq, befo_cf]
    cases hb : ltOf cfR xs[i] S[p] with
    | true =>
      rw [if_pos rfl]
      refine ih k (by omega) (by omega) fun s hs' => ?_
      rw [drop_at S p hp'] at hs'
      rcases List.mem_cons.1 hs' with rfl | h
      · exact hb
      · exact hs s h
    | false =>
      have hb' : ∀ q (hq : q < S.length), p + 1 = q + 1 → ltOf cfR xs[i] S[q] = false := by
        intro q hq' h
        have h2 : p = q := by omega
        subst h2
        exact hb
      have e := insR_at (ltOf cfR) xs[i] S (p + 1) hp hs hb'
      have H1 := H k (by omega)
      rw [e] at H1
      rw [if_neg (by simp), if_pos (by omega), if_pos (by omega)]
      have hz : ((p + 1 : Nat) : Int).toNat = p + 1 := rfl
      simp only [hz]
      rw [if_pos (by simp; omega), if_pos (by simp; omega), if_pos (by simp; omega)]
      exact H1
theorem insR_lenR (x : S37) (S : List S37) : (Stab.insR (ltOf cfR) x S).length = S.length + 1 := Stab.insR_len (ltOf cfR) x S
theorem spec_sort_from (xs : List S37) (hn : xs.length ≤ 1048576) : ∀ (d i k : Nat) (S : List S37), i + d = xs.length → S.length ≤ i → d * (xs.length + 2) + 1 ≤ k →
    spec_SortRules.l0 k xs S (i : Int) = some (((xs.drop i).filter vR).foldl (fun S x => Stab.insR (ltOf cfR) x S) S) := by
  intro d
  induction d with
  | zero =>
    intro i k S hi hS hk
    obtain ⟨k, rfl⟩ : ∃ z, k = z + 1 := ⟨k - 1, by omega⟩
    obtain rfl : i = xs.length := by omega
    simp only [spec_SortRules.l0]
    rw [if_neg nlt, List.drop_of_length_le (Nat.le_refl _)]
    rfl
  | succ d ih =>
    intro i k S hi hS hk
    rw [Nat.add_mul, Nat.one_mul] at hk
    obtain ⟨k, rfl⟩ : ∃ z, k = z + 1 := ⟨k - 1, by omega⟩
    have hi' : i < xs.length := by omega
    have hd := drop_at xs i hi'
    have hr := rdRule_i xs i hi'
    have hwi : wrap64 ((i : Int) + 1) = ((i + 1 : Nat) : Int) := by rw [wr (by omega) (by omega)]; omega
    simp only [spec_SortRules.l0]
    rw [if_pos (by omega), if_pos (by omega)]
    simp only [hr, spec_rul, Option.bind_some]
    rw [hd]
    by_cases hp : vR xs[i] = true
    · have hp' := hp
      unfold vR at hp
      rw [if_pos hp, List.filter_cons, if_pos hp', List.foldl_cons]
      refine spec_ins xs S i (d * (xs.length + 2) + 1) _ hn hi' (by omega) (fun k hk => ?_) S.length k (Nat.le_refl _) (by omega) (by simp)
      rw [hwi]
      exact ih (i + 1) k _ (by omega) (by rw [insR_lenR]; omega) hk
    · have hp' := hp
      unfold vR at hp
      rw [if_neg hp, List.filter_cons, if_neg hp', hwi]
      exact ih (i + 1) k S (by omega) (by omega) (by omega)
theorem spec_SortRules_eq (k : Nat) (xs : List S37) (hn : xs.length ≤ 1048576) (hk : xs.length * (xs.length + 2) < k) : spec_SortRules.f k xs = some (sortR xs) := by
  unfold spec_SortRules.f sortR
  exact spec_sort_from xs hn xs.length 0 k [] (by omega) (by simp) (by omega)


def own (s : List S37) (o : Int) : List S37 := s.filter fun r => decide (r.f2.f0 = o)
theorem own_le (s : List S37) (o : Int) : (own s o).length ≤ s.length := List.length_filter_le _ _
theorem spec_c1 (s : List S37) (hs : s.length ≤ 1048576) (o : Int) (A : List S37) (B : List (List S37)) (R : List S37 × List (List S37)) (KB : Nat)
    (H : ∀ k, KB ≤ k → (if o = 0 then spec_CompileRules.l0 k s (wrap64 (o + 1)) (own s o) B else (if B.length < 5864062014805 then spec_CompileRules.l0 k s (wrap64 (o + 1)) A (B ++ [own s o]) else none)) = some R) :
    ∀ (d k i : Nat), i + d = s.length → KB + d < k → spec_CompileRules.l1 k s o (own (s.take i) o) (i : Int) A B = some R := by
  intro d
  induction d with
  | zero =>
    intro k i hi hk
    obtain ⟨k, rfl⟩ : ∃ m, k = m + 1 := ⟨k - 1, by omega⟩
    have := H k (by omega)
    simp only [spec_CompileRules.l1]
    rw [if_neg (by omega), List.take_of_length_le (by omega)]
    exact this
  | succ d ih =>
    intro k i hi hk
    obtain ⟨k, rfl⟩ : ∃ m, k = m + 1 := ⟨k - 1, by omega⟩
    have hil : i < s.length := by omega
    have hr := rdRule_i s i hil
    have ht : s.take (i + 1) = s.take i ++ [s[i]] := List.take_succ_eq_append_getElem hil
    have ih' := ih k (i + 1) (by omega) (by omega)
    have hl := own_le (s.take i) o
    rw [List.length_take, Nat.min_eq_left (by omega)] at hl
    simp only [spec_CompileRules.l1, hr]
    rw [if_pos (by omega), if_pos (by omega), wr (i := (i : Int) + 1) (by omega) (by omega), show (i : Int) + 1 = ((i + 1 : Nat) : Int) by omega]
    rw [ht] at ih'
    by_cases h0 : s[i].f2.f0 = o
    · rw [if_pos h0, if_pos (by omega)]
      have e : own (s.take i ++ [s[i]]) o = own (s.take i) o ++ [s[i]] := by unfold own; rw [List.filter_append, List.filter_cons, if_pos (decide_eq_true h0)]; rfl
      rw [e] at ih'
      exact ih'
    · rw [if_neg h0]
      have e : own (s.take i ++ [s[i]]) o = own (s.take i) o := by unfold own; rw [List.filter_append, List.filter_cons, if_neg (by rw [decide_eq_false h0]; decide)]; simp
      rw [e] at ih'
      exact ih'
theorem spec_c0 (s : List S37) (hs : s.length ≤ 1048576) : ∀ (d k j : Nat), j + d = 9 → (d + 1) * (s.length + 2) + 1 < k → spec_CompileRules.l0 k s ((j + 1 : Nat) : Int) (own s 0) ((List.range j).map fun i => own s ((i + 1 : Nat) : Int)) = some (ownA s, ownB s) := by
  intro d
  induction d with
  | zero =>
    intro k j hj hk
    obtain ⟨k, rfl⟩ : ∃ m, k = m + 1 := ⟨k - 1, by omega⟩
    obtain rfl : j = 9 := by omega
    simp only [spec_CompileRules.l0]
    rw [if_neg (by omega)]
    rfl
  | succ d ih =>
    intro k j hj hk
    rw [Nat.add_mul, Nat.one_mul] at hk
    obtain ⟨k, rfl⟩ : ∃ m, k = m + 1 := ⟨k - 1, by omega⟩
    simp only [spec_CompileRules.l0]
    rw [if_pos (by omega)]
    have h := spec_c1 s hs ((j + 1 : Nat) : Int) (own s 0) ((List.range j).map fun i => own s ((i + 1 : Nat) : Int)) (ownA s, ownB s) ((d + 1) * (s.length + 2) + 2) (fun k hk => by
      rw [if_neg (by omega), if_pos (by simp; omega), wr (by omega) (by omega), show ((j + 1 : Nat) : Int) + 1 = ((j + 1 + 1 : Nat) : Int) by omega]
      have := ih k (j + 1) (by omega) (by omega)
      rw [List.range_succ, List.map_append] at this
      exact this) s.length k 0 (by omega) (by omega)
    exact h
theorem spec_CompileRules_eq (k : Nat) (xs : List S37) (hn : xs.length ≤ 1048576) (hk : xs.length * (xs.length + 2) + 20 * (xs.length + 2) < k) : spec_CompileRules.f k xs = some (ownA (sortR xs), ownB (sortR xs)) := by
  have hl := sortR_len xs
  unfold spec_CompileRules.f
  rw [spec_SortRules_eq k xs hn (by omega), Option.bind_some]
  obtain ⟨k, rfl⟩ : ∃ m, k = m + 1 := ⟨k - 1, by omega⟩
  simp only [spec_CompileRules.l0]
  rw [if_pos (by omega)]
  have hM : 10 * ((sortR xs).length + 2) ≤ 10 * (xs.length + 2) := Nat.mul_le_mul_left 10 (by omega)
  have h := spec_c1 (sortR xs) (by omega) 0 [] [] (ownA (sortR xs), ownB (sortR xs)) (10 * ((sortR xs).length + 2) + 2) (fun k hk => by
    rw [if_pos rfl, wr (by omega) (by omega)]
    have := spec_c0 (sortR xs) (by omega) 9 k 0 (by omega) (by omega)
    exact this) (sortR xs).length k 0 (by omega) (by omega)
  exact h


theorem eqRuleSS_self (k : Nat) (q : List (List S37)) (hn : q.length ≤ 1048576) (hq : ∀ y ∈ q, y.length ≤ 1048576) (hk : q.length + 1048577 < k) : laws_eqRuleSS.f k q q = some true := by
  have L := loop_run 1048577 (fun k (_ : Unit) i => laws_eqRuleSS.l0 k q q i) q.length (fun _ _ => true) (fun _ _ => True) (by omega)
    (fun k s i hm hi hI ih => by
      have hr : rd_L7 q (i : Int) = q[i] := rd_at _ q i hi
      have hl : (q[i]).length ≤ 1048576 := hq _ (List.getElem_mem _)
      simp only [laws_eqRuleSS.l0]
      rw [if_pos (by omega), if_pos (by omega), if_pos (by omega), hr, eqRuleS_self k _ hl (by omega), Option.bind_some, if_pos rfl]
      exact ih () trivial)
    (fun k s hm hI => by
      simp only [laws_eqRuleSS.l0]
      rw [if_neg nlt]) k hk () trivial
  try dsimp only at L
  unfold laws_eqRuleSS.f
  rw [if_pos rfl, L]


theorem eqTable_self (k : Nat) (l : List S37) (q : List (List S37)) (hl : l.length ≤ 1048576) (hn : q.length ≤ 1048576) (hq : ∀ y ∈ q, y.length ≤ 1048576) (hk : q.length + 1048577 < k) : laws_eqTable.f k l q l q = some true := by
  unfold laws_eqTable.f
  rw [eqRuleS_self k l hl (by omega), Option.bind_some, if_pos rfl, eqRuleSS_self k q hn hq hk, Option.bind_some, if_pos rfl]

def mkRule : Int → List S37 → List S37
  | _, [] => []
  | m, x :: xs => ⟨m, m + 1, ⟨m + 2, m + 3⟩, m + 4, m + 5, ⟨m + 6, m + 7⟩⟩ :: mkRule (m + 8) xs
theorem mkRule_len : ∀ (xs : List S37) (m : Int), (mkRule m xs).length = xs.length
  | [], _ => rfl
  | x :: xs, m => by simp [mkRule, mkRule_len xs]
theorem rdRule_set (xs : List S37) (i : Nat) (v : S37) (h : i < xs.length) : rd_T37 (xs.set i v) (i : Int) = v := by
  rw [rdRule_i _ i (by simpa using h)]; simp
set_option maxHeartbeats 4000000 in
theorem markRuleS_from (m0 : Int) (hm0 : 1 ≤ m0) (hm1 : m0 ≤ 1000000000000) (k : Nat) (xs : List S37) (hn : xs.length ≤ 1048576) (hk : xs.length < k) : laws_markRuleS.f k xs m0 = some (m0 + 8 * (xs.length : Int), mkRule m0 xs) := by
  have L := loop_up (fun k (s : List S37 × Int) i => laws_markRuleS.l0 k s.1 s.2 i) xs.length (fun s i => (s.2 + 8 * ((xs.length - i : Nat) : Int), s.1.take i ++ mkRule s.2 (s.1.drop i))) (fun s i => s.1.length = xs.length ∧ m0 ≤ s.2 ∧ s.2 ≤ m0 + 8 * i) (by omega)
    (fun k s i hi hI ih => by
      obtain ⟨s, m⟩ := s
      obtain ⟨h1, h2, h3⟩ := hI
      simp only at h1 h2 h3
      simp only [laws_markRuleS.l0]
      rw [if_pos (by omega), if_pos (by omega)]
      have hw : ∀ j : Int, 0 ≤ j → j ≤ 10 → wrap64 (m + j) = m + j := fun j _ _ => wr (by omega) (by omega)
      have hv : ∀ j : Int, 0 ≤ j → j ≤ 9 → wrap64 (m + j + 1) = m + (j + 1) := fun j _ _ => by rw [Int.add_assoc]; exact hw (j + 1) (by omega) (by omega)
      have w1 : wrap64 (m + 1) = m + 1 := hw 1 (by decide) (by decide)
      have w2 : wrap64 (m + 2) = m + 2 := hw 2 (by decide) (by decide)
      have w3 : wrap64 (m + 3) = m + 3 := hw 3 (by decide) (by decide)
      have w4 : wrap64 (m + 4) = m + 4 := hw 4 (by decide) (by decide)
      have w5 : wrap64 (m + 5) = m + 5 := hw 5 (by decide) (by decide)
      have w6 : wrap64 (m + 6) = m + 6 := hw 6 (by decide) (by decide)
      have w7 : wrap64 (m + 7) = m + 7 := hw 7 (by decide) (by decide)
      have w8 : wrap64 (m + 8) = m + 8 := hw 8 (by decide) (by decide)
      have v1 : wrap64 (m + 1 + 1) = m + 2 := hv 1 (by decide) (by decide)
      have v2 : wrap64 (m + 2 + 1) = m + 3 := hv 2 (by decide) (by decide)
      have v3 : wrap64 (m + 3 + 1) = m + 4 := hv 3 (by decide) (by decide)
      have v4 : wrap64 (m + 4 + 1) = m + 5 := hv 4 (by decide) (by decide)
      have v5 : wrap64 (m + 5 + 1) = m + 6 := hv 5 (by decide) (by decide)
      have v6 : wrap64 (m + 6 + 1) = m + 7 := hv 6 (by decide) (by decide)
      have v7 : wrap64 (m + 7 + 1) = m + 8 := hv 7 (by decide) (by decide)
      clear hw hv
      simp only [Option.bind_some, Int.toNat_natCast, w1, w2, w3, w4, w5, w6, w7, w8, v1, v2, v3, v4, v5, v6, v7]
      simp only [rdRule_set _ _ _ (show i < (s.set i _).length by simp; omega), rdRule_set _ _ _ (show i < s.length by omega), List.set_set, rdRule_i s i (by omega)]
      have hd := drop_at s i (by omega)
      have := ih (s.set i (let x := s[i]; ⟨m, m + 1, ⟨m + 2, m + 3⟩, m + 4, m + 5, ⟨m + 6, m + 7⟩⟩), m + 8) (by simp; omega)
      simp only at this
      rw [this]
      rw [take_set1 _ _ _ (by omega), hd]
      simp only [mkRule, List.append_assoc, List.singleton_append, List.cons_append, List.nil_append]
      congr 2
      · omega
      · simp [List.drop_set]
    )
    (fun k s hI => by
      simp only [laws_markRuleS.l0]
      rw [if_neg (by omega), List.drop_of_length_le (by omega), List.take_of_length_le (by omega)]
      simp [mkRule])
  unfold laws_markRuleS.f
  have := loop_from L k hk (xs, m0) (by simp)
  try simp only at this
  rw [this]
  simp

theorem markRuleS_eq (k : Nat) (xs : List S37) (hn : xs.length ≤ 1048576) (hk : xs.length < k) : laws_markRuleS.f k xs 1 = some (1 + 8 * (xs.length : Int), mkRule 1 xs) := markRuleS_from 1 (by omega) (by omega) k xs hn hk

set_option maxHeartbeats 4000000 in
theorem heldRuleS_from (m0 : Int) (hm0 : 1 ≤ m0) (hm1 : m0 ≤ 1000000000000) (k : Nat) (xs : List S37) (hn : xs.length ≤ 1048576) (hk : xs.length < k) : laws_heldRuleS.f k (mkRule m0 xs) m0 = some (m0 + 8 * (xs.length : Int)) := by
  have hl := mkRule_len xs m0
  have L := loop_up (fun k (m : Int) i => laws_heldRuleS.l0 k (mkRule m0 xs) m i) xs.length (fun m i => m + 8 * ((xs.length - i : Nat) : Int)) (fun m i => m0 ≤ m ∧ m ≤ m0 + 8 * i ∧ (mkRule m0 xs).drop i = mkRule m (xs.drop i)) (by omega)
    (fun k m i hi hI ih => by
      obtain ⟨h2, h3, h4⟩ := hI
      have hd := drop_at (mkRule m0 xs) i (by omega)
      have hx := drop_at xs i hi
      have hr := rdRule_i (mkRule m0 xs) i (by omega)
      rw [hd, hx] at h4
      simp only [mkRule, List.cons.injEq] at h4
      obtain ⟨h5, h6⟩ := h4
      rw [h5] at hr
      simp only [laws_heldRuleS.l0]
      rw [if_pos (by omega), if_pos (by omega)]
      have hw : ∀ j : Int, 0 ≤ j → j ≤ 10 → wrap64 (m + j) = m + j := fun j _ _ => wr (by omega) (by omega)
      have hv : ∀ j : Int, 0 ≤ j → j ≤ 9 → wrap64 (m + j + 1) = m + (j + 1) := fun j _ _ => by rw [Int.add_assoc]; exact hw (j + 1) (by omega) (by omega)
      have w1 : wrap64 (m + 1) = m + 1 := hw 1 (by decide) (by decide)
      have w2 : wrap64 (m + 2) = m + 2 := hw 2 (by decide) (by decide)
      have w3 : wrap64 (m + 3) = m + 3 := hw 3 (by decide) (by decide)
      have w4 : wrap64 (m + 4) = m + 4 := hw 4 (by decide) (by decide)
      have w5 : wrap64 (m + 5) = m + 5 := hw 5 (by decide) (by decide)
      have w6 : wrap64 (m + 6) = m + 6 := hw 6 (by decide) (by decide)
      have w7 : wrap64 (m + 7) = m + 7 := hw 7 (by decide) (by decide)
      have w8 : wrap64 (m + 8) = m + 8 := hw 8 (by decide) (by decide)
      have v1 : wrap64 (m + 1 + 1) = m + 2 := hv 1 (by decide) (by decide)
      have v2 : wrap64 (m + 2 + 1) = m + 3 := hv 2 (by decide) (by decide)
      have v3 : wrap64 (m + 3 + 1) = m + 4 := hv 3 (by decide) (by decide)
      have v4 : wrap64 (m + 4 + 1) = m + 5 := hv 4 (by decide) (by decide)
      have v5 : wrap64 (m + 5 + 1) = m + 6 := hv 5 (by decide) (by decide)
      have v6 : wrap64 (m + 6 + 1) = m + 7 := hv 6 (by decide) (by decide)
      have v7 : wrap64 (m + 7 + 1) = m + 8 := hv 7 (by decide) (by decide)
      clear hw hv
      simp only [hr, w1, w2, w3, w4, w5, w6, w7, w8, v1, v2, v3, v4, v5, v6, v7, if_true, bne_self_eq_false, Bool.false_eq_true, if_false]
      have := ih (m + 8) ⟨by omega, by omega, h6⟩
      rw [this]
      congr 1
      omega)
    (fun k m hI => by
      simp only [laws_heldRuleS.l0]
      rw [if_neg (by omega)]
      simp)
  unfold laws_heldRuleS.f
  have := loop_from L k hk m0 ⟨by omega, by omega, by simp⟩
  try simp only at this
  rw [this]
  simp

theorem heldRuleS_eq (k : Nat) (xs : List S37) (hn : xs.length ≤ 1048576) (hk : xs.length < k) : laws_heldRuleS.f k (mkRule 1 xs) 1 = some (1 + 8 * (xs.length : Int)) := heldRuleS_from 1 (by omega) (by omega) k xs hn hk


def tot2 (q : List (List S37)) : Nat := (q.map List.length).sum
def mkSS : Int → List (List S37) → List (List S37)
  | _, [] => []
  | m, y :: q => mkRule m y :: mkSS (m + 8 * (y.length : Int)) q
theorem mkSS_len : ∀ (q : List (List S37)) (m : Int), (mkSS m q).length = q.length
  | [], _ => rfl
  | y :: q, m => by simp [mkSS, mkSS_len q]
theorem rdSS_mid (P Q : List (List S37)) (y : List S37) : rd_L7 (P ++ y :: Q) (P.length : Int) = y := by
  have := rd_at ([] : List S37) (P ++ y :: Q) P.length (by simp)
  unfold rd_L7
  rw [this]
  simp
theorem markRuleSS_l0 : ∀ (Q P : List (List S37)) (k : Nat) (m : Int), (P.length + Q.length ≤ 1048576) → (∀ y ∈ Q, y.length ≤ 1048576) → 1 ≤ m → m + 8 * (tot2 Q : Int) ≤ 1000000000000 → 1048577 + Q.length < k →
    laws_markRuleSS.l0 k (P ++ Q) m (P.length : Int) = some (m + 8 * (tot2 Q : Int), P ++ mkSS m Q)
  | [], P, k, m, hn, hq, hm, hm2, hk => by
    obtain ⟨k, rfl⟩ : ∃ z, k = z + 1 := ⟨k - 1, by omega⟩
    simp only [laws_markRuleSS.l0]
    rw [if_neg (by simp)]
    simp [tot2, mkSS]
  | y :: Q, P, k, m, hn, hq, hm, hm2, hk => by
    have ht : tot2 (y :: Q) = y.length + tot2 Q := by simp [tot2]
    rw [ht] at hm2 ⊢
    rw [List.length_cons] at hn hk
    obtain ⟨k, rfl⟩ : ∃ z, k = z + 1 := ⟨k - 1, by omega⟩
    have hy := hq y List.mem_cons_self
    simp only [laws_markRuleSS.l0]
    rw [if_pos (by simp; omega), if_pos (by omega), rdSS_mid, markRuleS_from m hm (by omega) k y hy (by omega), Option.bind_some]
    dsimp only
    rw [wr (i := (P.length : Int) + 1) (by omega) (by omega)]
    have e : (P ++ y :: Q).set (P.length : Int).toNat (mkRule m y) = (P ++ [mkRule m y]) ++ Q := by
      rw [show ((P.length : Int)).toNat = P.length from rfl, List.set_append_right _ _ (Nat.le_refl _), Nat.sub_self, List.set_cons_zero]; simp
    have := markRuleSS_l0 Q (P ++ [mkRule m y]) k (m + 8 * (y.length : Int)) (by simp; omega) (fun z hz => hq z (List.mem_cons_of_mem _ hz)) (by omega) (by omega) (by omega)
    rw [e, show (P.length : Int) + 1 = ((P ++ [mkRule m y]).length : Int) by simp, this]
    congr 2
    · omega
    · simp [mkSS]
theorem markRuleSS_eq (k : Nat) (q : List (List S37)) (m : Int) (hn : q.length ≤ 1048576) (hq : ∀ y ∈ q, y.length ≤ 1048576) (hm : 1 ≤ m) (hm2 : m + 8 * (tot2 q : Int) ≤ 1000000000000) (hk : 1048577 + q.length < k) : laws_markRuleSS.f k q m = some (m + 8 * (tot2 q : Int), mkSS m q) := by
  have := markRuleSS_l0 q [] k m (by simpa using hn) hq hm hm2 hk
  unfold laws_markRuleSS.f
  simpa using this


theorem markTable_eq (k : Nat) (A : List S37) (q : List (List S37)) (hA : A.length ≤ 1048576) (hn : q.length ≤ 1048576) (hq : ∀ y ∈ q, y.length ≤ 1048576) (ht : tot2 q ≤ 1048576) (hk : 1048577 + q.length < k) :
    laws_markTable.f k A q 1 = some (1 + 8 * (A.length : Int) + 8 * (tot2 q : Int), mkRule 1 A, mkSS (1 + 8 * (A.length : Int)) q) := by
  unfold laws_markTable.f
  rw [markRuleS_eq k A hA (by omega), Option.bind_some]
  dsimp only
  rw [markRuleSS_eq k q _ hn hq (by omega) (by omega) hk, Option.bind_some]


theorem heldRuleSS_l0 : ∀ (Q P X : List (List S37)) (k : Nat) (m : Int), X = P ++ mkSS m Q → (P.length + Q.length ≤ 1048576) → (∀ y ∈ Q, y.length ≤ 1048576) → 1 ≤ m → m + 8 * (tot2 Q : Int) ≤ 1000000000000 → 1048577 + Q.length < k →
    laws_heldRuleSS.l0 k X m (P.length : Int) = some (m + 8 * (tot2 Q : Int))
  | [], P, X, k, m, hX, hn, hq, hm, hm2, hk => by
    subst hX
    obtain ⟨k, rfl⟩ : ∃ z, k = z + 1 := ⟨k - 1, by omega⟩
    simp only [laws_heldRuleSS.l0]
    rw [if_neg (by simp [mkSS])]
    simp [tot2]
  | y :: Q, P, X, k, m, hX, hn, hq, hm, hm2, hk => by
    have ht : tot2 (y :: Q) = y.length + tot2 Q := by simp [tot2]
    rw [ht] at hm2 ⊢
    rw [List.length_cons] at hn hk
    obtain ⟨k, rfl⟩ : ∃ z, k = z + 1 := ⟨k - 1, by omega⟩
    have hy := hq y List.mem_cons_self
    have hl := mkSS_len Q (m + 8 * (y.length : Int))
    have hX' : X = P ++ mkRule m y :: mkSS (m + 8 * (y.length : Int)) Q := hX
    simp only [laws_heldRuleSS.l0]
    have ih := heldRuleSS_l0 Q (P ++ [mkRule m y]) X k (m + 8 * (y.length : Int)) (by rw [hX']; simp) (by simp; omega) (fun z hz => hq z (List.mem_cons_of_mem _ hz)) (by omega) (by omega) (by omega)
    rw [if_pos (by rw [hX']; simp; omega), if_pos (by omega)]
    have hr : rd_L7 X (P.length : Int) = mkRule m y := by rw [hX']; exact rdSS_mid _ _ _
    rw [hr, heldRuleS_from m hm (by omega) k y hy (by omega), Option.bind_some, if_neg (by omega), wr (i := (P.length : Int) + 1) (by omega) (by omega)]
    rw [show (P.length : Int) + 1 = ((P ++ [mkRule m y]).length : Int) by simp, ih]
    congr 1
    omega
theorem heldRuleSS_eq (k : Nat) (q : List (List S37)) (m : Int) (hn : q.length ≤ 1048576) (hq : ∀ y ∈ q, y.length ≤ 1048576) (hm : 1 ≤ m) (hm2 : m + 8 * (tot2 q : Int) ≤ 1000000000000) (hk : 1048577 + q.length < k) : laws_heldRuleSS.f k (mkSS m q) m = some (m + 8 * (tot2 q : Int)) := by
  have := heldRuleSS_l0 q [] (mkSS m q) k m (by simp) (by simpa using hn) hq hm hm2 hk
  unfold laws_heldRuleSS.f
  simpa using this


theorem heldTable_eq (k : Nat) (A : List S37) (q : List (List S37)) (hA : A.length ≤ 1048576) (hn : q.length ≤ 1048576) (hq : ∀ y ∈ q, y.length ≤ 1048576) (ht : tot2 q ≤ 1048576) (hk : 1048577 + q.length < k) :
    laws_heldTable.f k (mkRule 1 A) (mkSS (1 + 8 * (A.length : Int)) q) 1 = some (1 + 8 * (A.length : Int) + 8 * (tot2 q : Int)) := by
  unfold laws_heldTable.f
  rw [heldRuleS_eq k A hA (by omega), Option.bind_some, if_neg (by omega), heldRuleSS_eq k q _ hn hq (by omega) (by omega) hk, Option.bind_some, if_neg (by omega)]


theorem part_tot2 (s : List S37) (hv : ∀ r ∈ s, 0 ≤ r.f2.f0 ∧ r.f2.f0 ≤ 9) : (ownA s).length + tot2 (ownB s) = s.length := by
  induction s with
  | nil => rfl
  | cons r s ih =>
    have h := ih (fun r hr => hv r (List.mem_cons_of_mem _ hr))
    have hr := hv r List.mem_cons_self
    have e : ∀ p : S37 → Bool, ((r :: s).filter p).length = (if p r = true then 1 else 0) + (s.filter p).length := fun p => by
      rw [List.filter_cons]; split <;> simp <;> omega
    unfold ownA ownB tot2 at h ⊢
    simp only [List.map_map, Function.comp_def] at h ⊢
    simp only [e] at h ⊢
    simp only [List.range, List.range.loop, List.map_cons, List.map_nil, List.sum_cons, List.sum_nil, List.length_cons, decide_eq_true_eq] at h ⊢
    have c : r.f2.f0 = 0 ∨ r.f2.f0 = 1 ∨ r.f2.f0 = 2 ∨ r.f2.f0 = 3 ∨ r.f2.f0 = 4 ∨ r.f2.f0 = 5 ∨ r.f2.f0 = 6 ∨ r.f2.f0 = 7 ∨ r.f2.f0 = 8 ∨ r.f2.f0 = 9 := by omega
    rcases c with c | c | c | c | c | c | c | c | c | c <;> simp [c] at h ⊢ <;> omega

theorem FnExactCompileRules (l : List S73) (hm : l.length ≤ 9223372036854775807) {g : S73 → Prop} (hg : ∀ y ∈ l, g y) : ∃ k, laws_FnExactCompileRules.f k l = some true := by
  obtain ⟨K, hK⟩ : ∃ K, K = l.length * (l.length + 2) + 20 * (l.length + 2) + 3000000 := ⟨_, rfl⟩
  refine ⟨K + l.length, ?_⟩
  unfold laws_FnExactCompileRules.f
  rw [szRule l 1048576 (by omega) (by omega) hm]
  simp only [Option.bind_some]
  by_cases hb : (1048576 : Int) < l.length
  · rw [if_pos hb, if_pos (by omega)]
  · rw [if_neg hb, if_neg (by omega)]
    have hl : l.length ≤ 1048576 := by omega
    have hc : (l.map cvRule).length = l.length := by simp
    have hf : (sortR (l.map cvRule)).length ≤ l.length := by have := sortR_len (l.map cvRule); omega
    have hs := spec_CompileRules_eq (K + l.length) (l.map cvRule) (by omega) (by rw [hc]; omega)
    have hp := part_tot2 (sortR (l.map cvRule)) (fun r hr => vR_own r ((mem_sortR _ r).1 hr).2)
    have hA := ownA_le (sortR (l.map cvRule))
    have hB := ownB_len (sortR (l.map cvRule))
    have hq : ∀ y ∈ ownB (sortR (l.map cvRule)), y.length ≤ 1048576 := fun y hy => by have := ownB_le _ y hy; omega
    have hK2 : 3000000 ≤ K := by omega
    clear hK
    have hi := fun k (hk : l.length + 20 < k) => impl_CompileRules_eq k (l.map cvRule) (by omega) (by rw [hc]; omega)
    generalize ownA (sortR (l.map cvRule)) = A at *
    generalize ownB (sortR (l.map cvRule)) = B at *
    rw [toRuleS_eq _ l hl (by omega), Option.bind_some, hs, Option.bind_some, Option.bind_some, hi _ (by omega), Option.bind_some]
    dsimp only
    rw [eqTable_self _ A B (by omega) (by omega) hq (by omega), Option.bind_some, if_pos rfl, Option.bind_some, eqRuleS_self _ _ (by omega) (by omega), Option.bind_some, if_pos rfl, markRuleS_eq _ _ (by omega) (by omega), Option.bind_some]
    dsimp only
    rw [if_neg (by omega), Option.bind_some]
    obtain ⟨k, hk⟩ : ∃ m, K + l.length = m + 1 := ⟨K + l.length - 1, by omega⟩
    rw [hk]
    simp only [laws_FnExactCompileRules.j0, Bool.not_true, Bool.false_eq_true, if_false]
    rw [markTable_eq k A B (by omega) (by omega) hq (by omega) (by omega), Option.bind_some]
    dsimp only
    rw [heldTable_eq k A B (by omega) (by omega) hq (by omega) (by omega), Option.bind_some, if_neg (by omega), if_pos rfl, toRuleS_eq _ l hl (by omega), Option.bind_some, hi _ (by omega), Option.bind_some]
    dsimp only
    rw [eqTable_self _ A B (by omega) (by omega) hq (by omega), Option.bind_some, if_pos rfl, Option.bind_some, if_neg (by omega), if_pos rfl]

end Go.Proofs.Ytepndcpncndjdaa.Pure
