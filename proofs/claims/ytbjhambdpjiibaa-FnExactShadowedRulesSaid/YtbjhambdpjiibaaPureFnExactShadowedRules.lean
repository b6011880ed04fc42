/- The printed function of the law FnExactShadowedRules answers true, for all arguments, under no condition but that each whole number is one of its kind and that each slice has a length that fits. -/
import Derived.Test.YtbjhambdpjiibaaQSx36
namespace Go.Proofs.Ytbjhambdpjiibaa.Pure
open Go.RowKit Go.Proofs.Ytbjhambdpjiibaa.QS Go.Proofs.YtbjhambdpjiibaaW.PrintWords Go.Proofs.YtbjhambdpjiibaaW.PrintLast
set_option linter.unusedVariables false
set_option linter.unusedSimpArgs false
theorem wr {i : Int} (h0 : -9223372036854775808 ≤ i) (h1 : i ≤ 9223372036854775807) : wrap64 i = i := by unfold wrap64; omega
theorem beq_dec (a b : Int) : (a == b) = decide (a = b) := by by_cases h : a = b <;> simp [h]
theorem and_if (p : Prop) [Decidable p] (c : Bool) : (if p then some c else some false) = some (decide p && c) := by
  by_cases h : p <;> simp [h]
theorem or_if (p : Prop) [Decidable p] (c : Bool) : (if p then some true else some c) = some (decide p || c) := by
  by_cases h : p <;> simp [h]
def inR (a b c : Int) : Bool := decide (b ≤ a) && decide (a ≤ c)
def isPat (o s : Int) : Bool := inR o 0 9 && inR s (-1) 9
def isSit (o s : Int) : Bool := inR o 1 9 && inR s 0 9
def mtch (po ps o s : Int) : Bool := isPat po ps && (isSit o s && ((decide (po = 0) || decide (po = o)) && (decide (ps = -1) || decide (ps = s))))
def narr (po ps qo qs : Int) : Bool := isPat po ps && (isPat qo qs && ((decide (qo = 0) || decide (po = qo)) && (decide (qs = -1) || decide (ps = qs))))
def isGra (e po ps k f u : Int) : Bool := inR e 1 5 && (isPat po ps && (inR k 1 4 && (decide (0 ≤ f) && (decide (f ≤ u) && decide (u ≤ 10000)))))
def isLim (e po ps k : Int) : Bool := inR e 0 5 && (isPat po ps && inR k 0 4)
def covr (e po ps k f u : Int) (cl : Bool) (ext o s kind tick : Int) (ck : Bool) : Bool :=
  isGra e po ps k f u && (decide (e = ext) && (decide (k = kind) && (mtch po ps o s && (inR tick f u && (ck || !cl)))))
def isRul (e p po ps s a o b : Int) : Bool :=
  inR e 1 5 && (inR p 1 9 && (isPat po ps && (inR s 0 4 && ((decide (a = 1) || decide (a = 2)) && (decide (o = 0) && decide (b = 0)) || decide (a = 3) && isSit o b))))
def isReq (o s t : Int) : Bool := isSit o s && inR t 1 4
def appl (e p po ps s a o b qo qs qt : Int) : Bool := isRul e p po ps s a o b && (isReq qo qs qt && (mtch po ps qo qs && (decide (s = 0) || decide (s = qt))))
def isLen (e po ps k f u : Int) (cl : Bool) : Bool := isGra e po ps k f u && (decide (po ≠ 0) && (decide (ps ≠ -1) && ((decide (k = 1) || decide (k = 2)) && (decide (u = f + 5) && !cl))))
def isLab (x : Int) : Bool := inR x 0 1022 && decide (Int.tmod x 2 = 0)
def befo (ae ap aa ao ab be bp ba bo bb : Int) : Bool :=
  if ap = bp then (if aa = ba then (if ae = be then (if ao = bo then decide (ab < bb) else decide (ao < bo)) else decide (ae < be)) else decide (aa < ba)) else decide (bp < ap)
def within (e po ps k f u : Int) (cl : Bool) (e' po' ps' k' f' u' : Int) (cl' : Bool) : Bool :=
  isGra e po ps k f u && (isGra e' po' ps' k' f' u' && (decide (e = e') && (decide (k = k') && (narr po ps po' ps' && (decide (f' ≤ f) && (decide (u ≤ u') && (cl || !cl')))))))
theorem take_set1 {α : Type} (s : List α) (i : Nat) (v : α) (h : i < s.length) : (s.set i v).take (i + 1) = s.take i ++ [v] := by
  rw [List.take_succ_eq_append_getElem (by simpa using h), List.take_set, List.set_eq_of_length_le (by simp; omega)]
  simp
theorem loop_up {σ ρ : Type} (g : Nat → σ → Int → Option ρ) (n : Nat) (out : σ → Nat → ρ) (I : σ → Nat → Prop) (hn : n ≤ 9223372036854775806)
    (hstep : ∀ (k : Nat) (s : σ) (i : Nat), i < n → I s i → (∀ s', I s' (i + 1) → g k s' (wrap64 ((i : Int) + 1)) = some (out s' (i + 1))) → g (k + 1) s (i : Int) = some (out s i))
    (hend : ∀ (k : Nat) (s : σ), I s n → g (k + 1) s (n : Int) = some (out s n)) :
    ∀ (d k : Nat) (s : σ) (i : Nat), i + d = n → d < k → I s i → g k s (i : Int) = some (out s i) := by
  intro d
  induction d with
  | zero =>
    intro k s i hi hk hI
    obtain ⟨k, rfl⟩ : ∃ m, k = m + 1 := ⟨k - 1, by omega⟩
    obtain rfl : i = n := by omega
    exact hend k s hI
  | succ d ih =>
    intro k s i hi hk hI
    obtain ⟨k, rfl⟩ : ∃ m, k = m + 1 := ⟨k - 1, by omega⟩
    refine hstep k s i (by omega) hI fun s' hI' => ?_
    have := ih k s' (i + 1) (by omega) (by omega) hI'
    rw [wr (by omega) (by omega)]
    exact_mod_cast this
theorem loop_from {σ ρ : Type} {g : Nat → σ → Int → Option ρ} {n : Nat} {out : σ → Nat → ρ} {I : σ → Nat → Prop} (h : ∀ (d k : Nat) (s : σ) (i : Nat), i + d = n → d < k → I s i → g k s (i : Int) = some (out s i))
    (k : Nat) (hk : n < k) (s : σ) (hI : I s 0) : g k s 0 = some (out s 0) := by
  have := h n k s 0 (by omega) hk hI
  exact_mod_cast this
theorem drop_at {α : Type} (xs : List α) (i : Nat) (h : i < xs.length) : xs.drop i = xs[i] :: xs.drop (i + 1) := List.drop_eq_getElem_cons h

theorem nlt {n : Nat} : ¬ (n : Int) < (n : Int) := by omega
/-- where a list is copied element by element into a made one -/
theorem rd_at {α : Type} (z : α) (xs : List α) (i : Nat) (h : i < xs.length) : xs.getD (i : Int).toNat z = xs[i] := by simp [h]

theorem loop_upm {σ ρ : Type} (m : Nat) (g : Nat → σ → Int → Option ρ) (n : Nat) (out : σ → Nat → ρ) (I : σ → Nat → Prop) (hn : n ≤ 9223372036854775806)
    (hstep : ∀ (k : Nat) (s : σ) (i : Nat), m ≤ k → i < n → I s i → (∀ s', I s' (i + 1) → g k s' (wrap64 ((i : Int) + 1)) = some (out s' (i + 1))) → g (k + 1) s (i : Int) = some (out s i))
    (hend : ∀ (k : Nat) (s : σ), m ≤ k → I s n → g (k + 1) s (n : Int) = some (out s n)) :
    ∀ (d k : Nat) (s : σ) (i : Nat), i + d = n → d + m < k → I s i → g k s (i : Int) = some (out s i) := by
  intro d
  induction d with
  | zero =>
    intro k s i hi hk hI
    obtain ⟨k, rfl⟩ : ∃ m, k = m + 1 := ⟨k - 1, by omega⟩
    obtain rfl : i = n := by omega
    exact hend k s (by omega) hI
  | succ d ih =>
    intro k s i hi hk hI
    obtain ⟨k, rfl⟩ : ∃ m, k = m + 1 := ⟨k - 1, by omega⟩
    refine hstep k s i (by omega) (by omega) hI fun s' hI' => ?_
    have := ih k s' (i + 1) (by omega) (by omega) hI'
    rw [wr (by omega) (by omega)]
    exact_mod_cast this
theorem loop_fromm {σ ρ : Type} {m : Nat} {g : Nat → σ → Int → Option ρ} {n : Nat} {out : σ → Nat → ρ} {I : σ → Nat → Prop} (h : ∀ (d k : Nat) (s : σ) (i : Nat), i + d = n → d + m < k → I s i → g k s (i : Int) = some (out s i))
    (k : Nat) (hk : n + m < k) (s : σ) (hI : I s 0) : g k s 0 = some (out s 0) := by
  have := h n k s 0 (by omega) hk hI
  exact_mod_cast this
theorem loop_run {σ ρ : Type} (m : Nat) (g : Nat → σ → Int → Option ρ) (n : Nat) (out : σ → Nat → ρ) (I : σ → Nat → Prop) (hn : n ≤ 9223372036854775806)
    (hstep : ∀ (k : Nat) (s : σ) (i : Nat), m ≤ k → i < n → I s i → (∀ s', I s' (i + 1) → g k s' (wrap64 ((i : Int) + 1)) = some (out s' (i + 1))) → g (k + 1) s (i : Int) = some (out s i))
    (hend : ∀ (k : Nat) (s : σ), m ≤ k → I s n → g (k + 1) s (n : Int) = some (out s n)) (k : Nat) (hk : n + m < k) (s : σ) (hI : I s 0) : g k s 0 = some (out s 0) :=
  loop_fromm (loop_upm m g n out I hn hstep hend) k hk s hI
theorem if_and2 {α : Type} (a : Bool) (p : Prop) [Decidable p] (x y : α) : (if a = true then (if p then x else y) else y) = if (a && decide p) = true then x else y := by
  cases a <;> by_cases h : p <;> simp [h]

theorem if_nand {α : Type} (a b : Bool) (x y : α) : (if a = true then (if b = true then y else x) else x) = if (!(a && b)) = true then x else y := by
  cases a <;> cases b <;> simp
theorem rdPattern_l (xs : List S63) (i : Nat) (h : i < xs.length) : rd_T63 xs (i : Int) = xs[i] := rd_at _ xs i h
theorem rdSite_l (xs : List S39) (i : Nat) (h : i < xs.length) : rd_T39 xs (i : Int) = xs[i] := rd_at _ xs i h
theorem rdRule_l (xs : List S65) (i : Nat) (h : i < xs.length) : rd_T65 xs (i : Int) = xs[i] := rd_at _ xs i h
theorem rdPattern_i (xs : List S43) (i : Nat) (h : i < xs.length) : rd_T43 xs (i : Int) = xs[i] := rd_at _ xs i h
theorem rdSite_i (xs : List S44) (i : Nat) (h : i < xs.length) : rd_T44 xs (i : Int) = xs[i] := rd_at _ xs i h
theorem rdRule_i (xs : List S46) (i : Nat) (h : i < xs.length) : rd_T46 xs (i : Int) = xs[i] := rd_at _ xs i h

def shadP (a r : S46) : Bool := isRul r.f0 r.f1 r.f2.f0 r.f2.f1 r.f3 r.f4 r.f5.f0 r.f5.f1 && (befo r.f0 r.f1 r.f4 r.f5.f0 r.f5.f1 a.f0 a.f1 a.f4 a.f5.f0 a.f5.f1 && (narr a.f2.f0 a.f2.f1 r.f2.f0 r.f2.f1 && (decide (r.f3 = 0) || decide (r.f3 = a.f3))))
theorem shadP_self (a : S46) : shadP a a = false := by
  have : befo a.f0 a.f1 a.f4 a.f5.f0 a.f5.f1 a.f0 a.f1 a.f4 a.f5.f0 a.f5.f1 = false := by unfold befo; simp
  unfold shadP; rw [this]; simp
def shadA (xs : List S46) (a : S46) : Bool := isRul a.f0 a.f1 a.f2.f0 a.f2.f1 a.f3 a.f4 a.f5.f0 a.f5.f1 && xs.any (shadP a)
def shad (xs : List S46) (x : Int) : Bool := if h : 0 ≤ x ∧ x < xs.length then shadA xs (xs[x.toNat]'(by omega)) else false

def shL (xs : List S46) (n d : Nat) : List Int := ((List.range' n d).filter fun j : Nat => shad xs (j : Int)).map fun (j : Nat) => (j : Int)
theorem shL_len (xs : List S46) (n d : Nat) : (shL xs n d).length ≤ d := by
  unfold shL
  rw [List.length_map]
  have := List.length_filter_le (fun j : Nat => shad xs (j : Int)) (List.range' n d)
  simpa using this
theorem shL_succ (xs : List S46) (n d : Nat) : shL xs n (d + 1) = (if shad xs (n : Int) = true then [(n : Int)] else []) ++ shL xs (n + 1) d := by
  unfold shL
  rw [List.range'_succ, List.filter_cons]
  split <;> simp

theorem szRule (xs : List S65) (a : Int) (h0 : 0 ≤ a) (h1 : a ≤ 1048576) (hl : xs.length ≤ 9223372036854775807) : laws_szRuleS.f xs a = some (if a < xs.length then -1 else a - xs.length) := by
  unfold laws_szRuleS.f
  rw [wr (by omega) (by omega)]
  by_cases h : a < xs.length
  · rw [if_pos (by omega), if_pos h]
  · rw [if_neg (by omega), if_neg h]

theorem spec_in (a b c : Int) : spec_l1In.f a b c = some (inR a b c) := by
  unfold spec_l1In.f inR; exact and_if _ _

theorem spec_pat (a b : Int) : spec_IsPattern.f a b = some (isPat a b) := by
  unfold spec_IsPattern.f isPat; simp only [spec_in, Option.bind_some]; cases inR a 0 9 <;> simp

theorem spec_sit (a b : Int) : spec_IsSite.f a b = some (isSit a b) := by
  unfold spec_IsSite.f isSit; simp only [spec_in, Option.bind_some]; cases inR a 1 9 <;> simp

theorem spec_befo (a0 a1 a2 a3 a4 a5 a6 a7 b0 b1 b2 b3 b4 b5 b6 b7 : Int) : spec_IsBefore.f a0 a1 a2 a3 a4 a5 a6 a7 b0 b1 b2 b3 b4 b5 b6 b7 = some (befo a0 a1 a5 a6 a7 b0 b1 b5 b6 b7) := by
  unfold spec_IsBefore.f befo
  by_cases h1 : a1 = b1 <;> by_cases h2 : a5 = b5 <;> by_cases h3 : a0 = b0 <;> by_cases h4 : a6 = b6 <;> simp [h1, h2, h3, h4]

theorem toSite_eq (a0 : Int) (a1 : Int) : laws_toSite.f a0 a1 = some (a0, a1) := by
  unfold laws_toSite.f; rfl

theorem toRule_eq (a0 : Int) (a1 : Int) (a2 : Int) (a3 : Int) (a4 : Int) (a5 : Int) (a6 : Int) (a7 : Int) : laws_toRule.f a0 a1 a2 a3 a4 a5 a6 a7 = some (a0, a1, a2, a3, a4, a5, a6, a7) := by
  unfold laws_toRule.f laws_toPattern.f laws_toSite.f; rfl

def cvRule (r : S65) : S46 := ⟨r.f0, r.f1, ⟨r.f2.f0, r.f2.f1⟩, r.f3, r.f4, ⟨r.f5.f0, r.f5.f1⟩⟩
theorem toRuleS_eq (k : Nat) (xs : List S65) (hn : xs.length ≤ 1048576) (hk : xs.length < k) : laws_toRuleS.f k xs = some (xs.map cvRule) := by
  have L := loop_up (fun k (s : List S46) i => laws_toRuleS.l0 k xs s i) xs.length (fun s i => s.take i ++ (xs.drop i).map cvRule) (fun s _ => s.length = xs.length) (by omega)
    (fun k s i hi hI ih => by
      simp only [laws_toRuleS.l0]
      rw [if_pos (by omega), if_pos (by omega), rdRule_l xs i hi, toRule_eq]
      simp only [Option.bind_some]
      rw [if_pos (by omega), ih _ (by simp [hI]), Int.toNat_natCast, take_set1 _ _ _ (by omega), drop_at xs i hi, List.map_cons, List.append_assoc]
      rfl)
    (fun k s hI => by
      simp only [laws_toRuleS.l0]
      rw [if_neg nlt, List.drop_of_length_le (Nat.le_refl _), List.take_of_length_le (by omega)]
      simp)
  unfold laws_toRuleS.f
  rw [if_pos (by omega), if_pos (by omega)]
  rw [loop_from L k hk _ (by simp)]
  simp

theorem impl_in (a b c : Int) : impl_InRange.f a b c = some (inR a b c) := by
  unfold impl_InRange.f inR; exact and_if _ _

theorem impl_pat (a b : Int) : impl_IsPattern.f a b = some (isPat a b) := by
  unfold impl_IsPattern.f isPat; simp only [impl_in, Option.bind_some]; cases inR a 0 9 <;> simp

theorem impl_sit (a b : Int) : impl_IsSite.f a b = some (isSit a b) := by
  unfold impl_IsSite.f isSit; simp only [impl_in, Option.bind_some]; cases inR a 1 9 <;> simp

theorem or5 (n : Nat) (a b c d e : Int) : cmp_Or_int.f (n + 6) [a, b, c, d, e] = some (if a = 0 then (if b = 0 then (if c = 0 then (if d = 0 then e else d) else c) else b) else a) := by
  have w0 : wrap64 (0 + 1) = 1 := wr (by omega) (by omega)
  have w1 : wrap64 (1 + 1) = 2 := wr (by omega) (by omega)
  have w2 : wrap64 (2 + 1) = 3 := wr (by omega) (by omega)
  have w3 : wrap64 (3 + 1) = 4 := wr (by omega) (by omega)
  have w4 : wrap64 (4 + 1) = 5 := wr (by omega) (by omega)
  unfold cmp_Or_int.f
  simp only [cmp_Or_int.l0, w0, w1, w2, w3, w4]
  by_cases h1 : a = 0 <;> by_cases h2 : b = 0 <;> by_cases h3 : c = 0 <;> by_cases h4 : d = 0 <;> by_cases h5 : e = 0 <;> simp [h1, h2, h3, h4, h5, rd]

theorem cmp_eq (a b : Int) : cmp_Compare_int.f a b = some (if a < b then -1 else if a > b then 1 else 0) := by
  unfold cmp_Compare_int.f cmp_isNaN_int.f; simp only [Option.bind_some, bne_self_eq_false]
  by_cases h1 : a < b <;> by_cases h2 : a > b <;> simp [h1, h2]

theorem eqSite_self (a0 : Int) (a1 : Int) : laws_eqSite.f a0 a1 a0 a1 = some true := by
  simp [laws_eqSite.f]

theorem eqRule_self (a0 : Int) (a1 : Int) (a2 : Int) (a3 : Int) (a4 : Int) (a5 : Int) (a6 : Int) (a7 : Int) : laws_eqRule.f a0 a1 a2 a3 a4 a5 a6 a7 a0 a1 a2 a3 a4 a5 a6 a7 = some true := by
  simp [laws_eqRule.f, laws_eqPattern.f, laws_eqSite.f]

theorem eqRuleS_self (k : Nat) (xs : List S46) (hn : xs.length ≤ 1048576) (hk : xs.length < k) : laws_eqRuleS.f k xs xs = some true := by
  have L := loop_up (fun k (_ : Unit) i => laws_eqRuleS.l0 k xs xs i) xs.length (fun _ _ => true) (fun _ _ => True) (by omega)
    (fun k s i hi hI ih => by
      simp only [laws_eqRuleS.l0]
      rw [if_pos (by omega), if_pos (by omega), if_pos (by omega)]
      simp only [eqRule_self, Option.bind_some, if_true]
      exact ih () trivial)
    (fun k s hI => by
      simp only [laws_eqRuleS.l0]
      rw [if_neg nlt])
  unfold laws_eqRuleS.f
  rw [if_pos rfl]
  exact loop_from L k hk () trivial

theorem spec_rul (e p po ps s a o b : Int) : spec_IsRule.f e p po ps s a o b = some (isRul e p po ps s a o b) := by
  unfold spec_IsRule.f isRul; simp only [spec_in, spec_pat, Option.bind_some, spec_sit]
  cases inR e 1 5 <;> cases inR p 1 9 <;> cases isPat po ps <;> cases inR s 0 4 <;> simp
  by_cases h1 : a = 1
  · subst h1; simp [beq_dec, inR]
  · by_cases h2 : a = 2
    · subst h2; simp [beq_dec, inR]
    · by_cases h3 : a = 3
      · subst h3; cases isSit o b <;> simp [inR]
      · have : inR a 1 3 = false := by unfold inR; simp; omega
        simp [h1, h2, h3, this]

theorem spec_narr (a b c d : Int) : spec_IsNarrower.f a b c d = some (narr a b c d) := by
  unfold spec_IsNarrower.f narr; simp only [spec_pat, Option.bind_some]
  cases isPat a b <;> cases isPat c d <;> simp
  by_cases h1 : c = 0 <;> by_cases h2 : a = c <;> by_cases h3 : d = -1 <;> simp [h1, h2, h3] <;> simp [beq_dec]


theorem spec_shad_l (k : Nat) (xs : List S46) (p : Nat) (hp : p < xs.length) (hn : xs.length ≤ 1048576) (hk : xs.length < k) : spec_IsShadowed.l0 k xs (p : Int) 0 = some (xs.any (shadP xs[p])) := by
  have ha := rdRule_i xs p hp
  generalize xs[p] = a at ha
  have L := loop_run 0 (fun k (_ : Unit) i => spec_IsShadowed.l0 k xs (p : Int) i) xs.length (fun _ i => (xs.drop i).any (shadP a)) (fun _ _ => True) (by omega)
    (fun k u_ i hm hi hI ih => by
      have hd := drop_at xs i hi
      have hr := rdRule_i xs i hi
      generalize xs[i] = r at hd hr
      have ih' := ih () trivial
      try dsimp only at ih'
      simp only [spec_IsShadowed.l0]
      rw [if_pos (by omega), if_pos (by omega)]
      simp only [hr, ha]
      rw [if_pos (show (0 : Int) ≤ (p : Int) by omega), if_pos (show (p : Int) < (xs.length : Int) by omega)]
      rw [hd, List.any_cons, ih']
      simp only [spec_rul, spec_befo, spec_narr, Option.bind_some]
      unfold shadP
      cases isRul r.f0 r.f1 r.f2.f0 r.f2.f1 r.f3 r.f4 r.f5.f0 r.f5.f1
      · simp
      · cases befo r.f0 r.f1 r.f4 r.f5.f0 r.f5.f1 a.f0 a.f1 a.f4 a.f5.f0 a.f5.f1
        · simp
        · cases narr a.f2.f0 a.f2.f1 r.f2.f0 r.f2.f1
          · simp
          · by_cases h1 : r.f3 = 0
            · simp [h1]
            · by_cases h2 : r.f3 = a.f3 <;> simp [h1, h2])
    (fun k u_ hm hI => by
      simp only [spec_IsShadowed.l0]
      rw [if_neg nlt, List.drop_of_length_le (Nat.le_refl _)]
      rfl) k hk () trivial
  try dsimp only at L
  rw [L, List.drop_zero]
theorem spec_shad (k : Nat) (xs : List S46) (x : Int) (hn : xs.length ≤ 1048576) (hk : xs.length + 10 < k) : spec_IsShadowed.f k xs x = some (shad xs x) := by
  obtain ⟨k, rfl⟩ : ∃ m, k = m + 1 := ⟨k - 1, by omega⟩
  unfold spec_IsShadowed.f
  rw [spec_in, Option.bind_some, wr (by omega) (by omega)]
  by_cases h : 0 ≤ x ∧ x < xs.length
  · have h1 : inR x 0 ((xs.length : Int) - 1) = true := by unfold inR; simp; omega
    obtain ⟨p, rfl⟩ : ∃ p : Nat, x = p := ⟨x.toNat, by omega⟩
    have hp : p < xs.length := by omega
    have e : shad xs (p : Int) = shadA xs xs[p] := by unfold shad; rw [dif_pos h]; simp
    rw [e, h1, if_pos rfl, if_pos (by omega), if_pos (by omega)]
    rw [rdRule_i xs p hp]
    simp only [spec_rul, Option.bind_some, spec_IsShadowed.j0, spec_shad_l k xs p hp hn (by omega)]
    unfold shadA
    cases isRul xs[p].f0 xs[p].f1 xs[p].f2.f0 xs[p].f2.f1 xs[p].f3 xs[p].f4 xs[p].f5.f0 xs[p].f5.f1 <;> simp
  · have h1 : inR x 0 ((xs.length : Int) - 1) = false := by unfold inR; simp; omega
    have e : shad xs x = false := by unfold shad; rw [dif_neg h]
    rw [e, h1, if_neg (by decide)]
    simp [spec_IsShadowed.j0]


theorem spec_shl (xs : List S46) (hn : xs.length ≤ 1048576) : ∀ (d k n : Nat) (c : List Int), n + d = xs.length → c.length ≤ n → d + xs.length + 30 < k → spec_ShadowedRules.l0 k xs c (n : Int) = some (c ++ shL xs n d) := by
  intro d
  induction d with
  | zero =>
    intro k n c hi hc hk
    obtain ⟨k, rfl⟩ : ∃ m, k = m + 1 := ⟨k - 1, by omega⟩
    simp only [spec_ShadowedRules.l0]
    rw [if_neg (by omega)]
    simp [shL]
  | succ d ih =>
    intro k n c hi hc hk
    obtain ⟨k, rfl⟩ : ∃ m, k = m + 1 := ⟨k - 1, by omega⟩
    simp only [spec_ShadowedRules.l0]
    rw [if_pos (by omega), spec_shad k xs _ hn (by omega), Option.bind_some, wr (by omega) (by omega), show (n : Int) + 1 = ((n + 1 : Nat) : Int) by omega, shL_succ]
    cases shad xs (n : Int)
    · simp only [Bool.false_eq_true, if_false, List.nil_append]
      exact ih k (n + 1) c (by omega) (by omega) (by omega)
    · simp only [if_true]
      rw [if_pos (by omega), ← List.append_assoc]
      exact ih k (n + 1) (c ++ [(n : Int)]) (by omega) (by simp; omega) (by omega)
theorem spec_Shadowed_eq (k : Nat) (xs : List S46) (hn : xs.length ≤ 1048576) (hk : xs.length + xs.length + 40 < k) : spec_ShadowedRules.f k xs = some (shL xs 0 xs.length) := by
  unfold spec_ShadowedRules.f
  have := spec_shl xs hn xs.length k 0 [] (by omega) (by simp) (by omega)
  rw [show ((0 : Nat) : Int) = 0 from rfl] at this
  rw [this, List.nil_append]

theorem impl_rul (n : Nat) (e p po ps s a o b : Int) : impl_IsRule.f (n + 2) e p po ps s a o b = some (isRul e p po ps s a o b) := by
  unfold impl_IsRule.f isRul; simp only [impl_in, impl_pat, Option.bind_some, impl_IsRule.j0, impl_IsRule.j1, impl_sit]
  cases inR e 1 5 <;> cases inR p 1 9 <;> cases isPat po ps <;> cases inR s 0 4 <;> simp
  by_cases h1 : a = 1
  · subst h1; simp [beq_dec]
  · by_cases h2 : a = 2
    · subst h2; simp [beq_dec]
    · by_cases h3 : a = 3
      · subst h3; simp
      · simp [h1, h2, h3]

theorem impl_befo (n : Nat) (a0 a1 a2 a3 a4 a5 a6 a7 b0 b1 b2 b3 b4 b5 b6 b7 : Int) : impl_IsBefore.f (n + 6) a0 a1 a2 a3 a4 a5 a6 a7 b0 b1 b2 b3 b4 b5 b6 b7 = some (befo a0 a1 a5 a6 a7 b0 b1 b5 b6 b7) := by
  unfold impl_IsBefore.f impl_compareRules.f befo; simp only [cmp_eq, or5, Option.bind_some]
  rcases Int.lt_trichotomy a1 b1 with h | h | h
  · simp [show ¬ b1 < a1 by omega, show b1 > a1 by omega, show ¬ a1 = b1 by omega]
  · subst h
    rcases Int.lt_trichotomy a5 b5 with h | h | h
    · simp [h, show ¬ a5 = b5 by omega]
    · subst h
      rcases Int.lt_trichotomy a0 b0 with h | h | h
      · simp [h, show ¬ a0 = b0 by omega]
      · subst h
        rcases Int.lt_trichotomy a6 b6 with h | h | h
        · simp [h, show ¬ a6 = b6 by omega]
        · subst h
          rcases Int.lt_trichotomy a7 b7 with h | h | h
          · simp [h]
          · subst h; simp
          · simp [h, show ¬ a7 < b7 by omega]
        · simp [h, show ¬ a6 < b6 by omega, show ¬ a6 = b6 by omega]
      · simp [h, show ¬ a0 < b0 by omega, show ¬ a0 = b0 by omega]
    · simp [h, show ¬ a5 < b5 by omega, show ¬ a5 = b5 by omega]
  · simp [h, show ¬ a1 = b1 by omega]

theorem impl_narr (a b c d : Int) : impl_IsNarrower.f a b c d = some (narr a b c d) := by
  unfold impl_IsNarrower.f narr; simp only [impl_pat, Option.bind_some]
  cases isPat a b <;> cases isPat c d <;> simp
  by_cases h1 : c = 0 <;> by_cases h2 : a = c <;> by_cases h3 : d = -1 <;> simp [h1, h2, h3] <;> simp [beq_dec]


theorem impl_shad_l (k : Nat) (xs : List S46) (p : Nat) (hp : p < xs.length) (hn : xs.length ≤ 1048576) (hk : xs.length + 8 < k) : impl_IsShadowed.l0 k xs (p : Int) xs (xs.length : Int) 0 = some (xs.any (shadP xs[p])) := by
  have hpi : ∀ i (hi : i < xs.length), i = p → xs[i] = xs[p] := fun i hi e => by subst e; rfl
  have ha := rdRule_i xs p hp
  generalize xs[p] = a at ha hpi
  have L := loop_run 8 (fun k (_ : Unit) i => impl_IsShadowed.l0 k xs (p : Int) xs (xs.length : Int) i) xs.length (fun _ i => (xs.drop i).any (shadP a)) (fun _ _ => True) (by omega)
    (fun k u_ i hm hi hI ih => by
      have hd := drop_at xs i hi
      have hr := rdRule_i xs i hi
      have hpi' := hpi i hi
      generalize xs[i] = r at hd hr hpi'
      have ih' := ih () trivial
      try dsimp only at ih'
      simp only [impl_IsShadowed.l0]
      rw [if_pos (by omega), if_pos (by omega), if_pos (by omega)]
      by_cases hip : i = p
      · rw [if_pos (by omega), ih', hd, List.any_cons, hpi' hip, shadP_self, Bool.false_or]
      · rw [if_neg (by omega)]
        simp only [hr, ha]
        obtain ⟨k, rfl⟩ : ∃ z, k = z + 6 := ⟨k - 6, by omega⟩
        rw [if_pos (show (0 : Int) ≤ (p : Int) by omega), if_pos (show (p : Int) < (xs.length : Int) by omega)]
        rw [hd, List.any_cons, ih']
        rw [show k + 6 = (k + 4) + 2 from rfl, impl_rul, show (k + 4) + 2 = k + 6 from rfl, Option.bind_some, impl_befo, Option.bind_some, impl_narr, Option.bind_some]
        unfold shadP
        cases isRul r.f0 r.f1 r.f2.f0 r.f2.f1 r.f3 r.f4 r.f5.f0 r.f5.f1
        · simp
        · cases befo r.f0 r.f1 r.f4 r.f5.f0 r.f5.f1 a.f0 a.f1 a.f4 a.f5.f0 a.f5.f1
          · simp
          · cases narr a.f2.f0 a.f2.f1 r.f2.f0 r.f2.f1
            · simp
            · by_cases h1 : r.f3 = 0
              · simp [h1]
              · by_cases h2 : r.f3 = a.f3 <;> simp [h1, h2])
    (fun k u_ hm hI => by
      simp only [impl_IsShadowed.l0]
      rw [if_neg nlt, List.drop_of_length_le (Nat.le_refl _)]
      rfl) k hk () trivial
  try dsimp only at L
  rw [L, List.drop_zero]
theorem impl_shad (k : Nat) (xs : List S46) (x : Int) (hn : xs.length ≤ 1048576) (hk : xs.length + 20 < k) : impl_IsShadowed.f k xs x = some (shad xs x) := by
  obtain ⟨k, rfl⟩ : ∃ m, k = m + 2 := ⟨k - 2, by omega⟩
  unfold impl_IsShadowed.f
  by_cases h0 : x < 0
  · have e : shad xs x = false := by unfold shad; rw [dif_neg (by omega)]
    rw [if_pos h0, e]; simp [impl_IsShadowed.j0]
  · by_cases h1 : x ≥ xs.length
    · have e : shad xs x = false := by unfold shad; rw [dif_neg (by omega)]
      rw [if_neg h0, if_pos h1, e]; simp [impl_IsShadowed.j0]
    · obtain ⟨p, rfl⟩ : ∃ p : Nat, x = p := ⟨x.toNat, by omega⟩
      have hp : p < xs.length := by omega
      have e : shad xs (p : Int) = shadA xs xs[p] := by unfold shad; rw [dif_pos (by omega)]; simp
      rw [e, if_neg h0, if_neg h1, if_pos (by omega), if_pos (by omega)]
      rw [rdRule_i xs p hp]
      rw [impl_rul, Option.bind_some]
      simp only [impl_IsShadowed.j0, impl_shad_l (k + 1) xs p hp hn (by omega)]
      unfold shadA
      cases isRul xs[p].f0 xs[p].f1 xs[p].f2.f0 xs[p].f2.f1 xs[p].f3 xs[p].f4 xs[p].f5.f0 xs[p].f5.f1 <;> simp


theorem impl_shl (xs : List S46) (hn : xs.length ≤ 1048576) : ∀ (d k n : Nat) (c : List Int), n + d = xs.length → c.length ≤ n → d + xs.length + 30 < k → impl_ShadowedRules.l0 k xs c (xs.length : Int) (n : Int) = some (c ++ shL xs n d) := by
  intro d
  induction d with
  | zero =>
    intro k n c hi hc hk
    obtain ⟨k, rfl⟩ : ∃ m, k = m + 1 := ⟨k - 1, by omega⟩
    simp only [impl_ShadowedRules.l0]
    rw [if_neg (by omega)]
    simp [shL]
  | succ d ih =>
    intro k n c hi hc hk
    obtain ⟨k, rfl⟩ : ∃ m, k = m + 1 := ⟨k - 1, by omega⟩
    simp only [impl_ShadowedRules.l0]
    rw [if_pos (by omega), impl_shad k xs _ hn (by omega), Option.bind_some, wr (by omega) (by omega), show (n : Int) + 1 = ((n + 1 : Nat) : Int) by omega, shL_succ]
    cases shad xs (n : Int)
    · simp only [Bool.false_eq_true, if_false, List.nil_append]
      exact ih k (n + 1) c (by omega) (by omega) (by omega)
    · simp only [if_true]
      rw [if_pos (by omega), ← List.append_assoc]
      exact ih k (n + 1) (c ++ [(n : Int)]) (by omega) (by simp; omega) (by omega)
theorem impl_Shadowed_eq (k : Nat) (xs : List S46) (hn : xs.length ≤ 1048576) (hk : xs.length + xs.length + 40 < k) : impl_ShadowedRules.f k xs = some (shL xs 0 xs.length) := by
  unfold impl_ShadowedRules.f
  have := impl_shl xs hn xs.length k 0 [] (by omega) (by simp) (by omega)
  rw [show ((0 : Nat) : Int) = 0 from rfl] at this
  rw [this, List.nil_append]

def mkRule : Int → List S46 → List S46
  | _, [] => []
  | m, x :: xs => ⟨m, m + 1, ⟨m + 2, m + 3⟩, m + 4, m + 5, ⟨m + 6, m + 7⟩⟩ :: mkRule (m + 8) xs
theorem mkRule_len : ∀ (xs : List S46) (m : Int), (mkRule m xs).length = xs.length
  | [], _ => rfl
  | x :: xs, m => by simp [mkRule, mkRule_len xs]
theorem rdRule_set (xs : List S46) (i : Nat) (v : S46) (h : i < xs.length) : rd_T46 (xs.set i v) (i : Int) = v := by
  rw [rdRule_i _ i (by simpa using h)]; simp
set_option maxHeartbeats 4000000 in
theorem markRuleS_eq (k : Nat) (xs : List S46) (hn : xs.length ≤ 1048576) (hk : xs.length < k) : laws_markRuleS.f k xs 1 = some (1 + 8 * (xs.length : Int), mkRule 1 xs) := by
  have L := loop_up (fun k (s : List S46 × Int) i => laws_markRuleS.l0 k s.1 s.2 i) xs.length (fun s i => (s.2 + 8 * ((xs.length - i : Nat) : Int), s.1.take i ++ mkRule s.2 (s.1.drop i))) (fun s i => s.1.length = xs.length ∧ 1 ≤ s.2 ∧ s.2 ≤ 1 + 8 * i) (by omega)
    (fun k s i hi hI ih => by
      obtain ⟨s, m⟩ := s
      obtain ⟨h1, h2, h3⟩ := hI
      simp only at h1 h2 h3
      simp only [laws_markRuleS.l0]
      rw [if_pos (by omega), if_pos (by omega)]
      have hw : ∀ j : Int, 0 ≤ j → j ≤ 10 → wrap64 (m + j) = m + j := fun j _ _ => wr (by omega) (by omega)
      have hv : ∀ j : Int, 0 ≤ j → j ≤ 9 → wrap64 (m + j + 1) = m + (j + 1) := fun j _ _ => by rw [Int.add_assoc]; exact hw (j + 1) (by omega) (by omega)
      have w1 : wrap64 (m + 1) = m + 1 := hw 1 (by decide) (by decide)
      have w2 : wrap64 (m + 2) = m + 2 := hw 2 (by decide) (by decide)
      have w3 : wrap64 (m + 3) = m + 3 := hw 3 (by decide) (by decide)
      have w4 : wrap64 (m + 4) = m + 4 := hw 4 (by decide) (by decide)
      have w5 : wrap64 (m + 5) = m + 5 := hw 5 (by decide) (by decide)
      have w6 : wrap64 (m + 6) = m + 6 := hw 6 (by decide) (by decide)
      have w7 : wrap64 (m + 7) = m + 7 := hw 7 (by decide) (by decide)
      have w8 : wrap64 (m + 8) = m + 8 := hw 8 (by decide) (by decide)
      have v1 : wrap64 (m + 1 + 1) = m + 2 := hv 1 (by decide) (by decide)
      have v2 : wrap64 (m + 2 + 1) = m + 3 := hv 2 (by decide) (by decide)
      have v3 : wrap64 (m + 3 + 1) = m + 4 := hv 3 (by decide) (by decide)
      have v4 : wrap64 (m + 4 + 1) = m + 5 := hv 4 (by decide) (by decide)
      have v5 : wrap64 (m + 5 + 1) = m + 6 := hv 5 (by decide) (by decide)
      have v6 : wrap64 (m + 6 + 1) = m + 7 := hv 6 (by decide) (by decide)
      have v7 : wrap64 (m + 7 + 1) = m + 8 := hv 7 (by decide) (by decide)
      clear hw hv
      simp only [Option.bind_some, Int.toNat_natCast, w1, w2, w3, w4, w5, w6, w7, w8, v1, v2, v3, v4, v5, v6, v7]
      simp only [rdRule_set _ _ _ (show i < (s.set i _).length by simp; omega), rdRule_set _ _ _ (show i < s.length by omega), List.set_set, rdRule_i s i (by omega)]
      have hd := drop_at s i (by omega)
      have := ih (s.set i (let x := s[i]; ⟨m, m + 1, ⟨m + 2, m + 3⟩, m + 4, m + 5, ⟨m + 6, m + 7⟩⟩), m + 8) (by simp; omega)
      simp only at this
      rw [this]
      rw [take_set1 _ _ _ (by omega), hd]
      simp only [mkRule, List.append_assoc, List.singleton_append, List.cons_append, List.nil_append]
      congr 2
      · omega
      · simp [List.drop_set]
    )
    (fun k s hI => by
      simp only [laws_markRuleS.l0]
      rw [if_neg (by omega), List.drop_of_length_le (by omega), List.take_of_length_le (by omega)]
      simp [mkRule])
  unfold laws_markRuleS.f
  have := loop_from L k hk (xs, 1) (by simp)
  try simp only at this
  rw [this]
  simp

theorem rdInt (xs : List Int) (i : Nat) (h : i < xs.length) : rd xs (i : Int) = xs[i] := rd_at _ xs i h
theorem eqIntS_self (k : Nat) (xs : List Int) (hn : xs.length ≤ 1048576) (hk : xs.length < k) : laws_eqIntS.f k xs xs = some true := by
  have L := loop_run 0 (fun k (_ : Unit) i => laws_eqIntS.l0 k xs xs i) xs.length (fun _ _ => true) (fun _ _ => True) (by omega)
    (fun k s i hm hi hI ih => by
      simp only [laws_eqIntS.l0]
      rw [if_pos (by omega), if_pos (by omega), if_pos (by omega)]
      simp only [if_true]
      exact ih () trivial)
    (fun k s hm hI => by
      simp only [laws_eqIntS.l0]
      rw [if_neg nlt]) k hk () trivial
  try dsimp only at L
  unfold laws_eqIntS.f
  rw [if_pos rfl, L]

def mkInt : Int → List Int → List Int
  | _, [] => []
  | m, x :: xs => m :: mkInt (m + 1) xs
theorem mkInt_len : ∀ (xs : List Int) (m : Int), (mkInt m xs).length = xs.length
  | [], _ => rfl
  | x :: xs, m => by simp [mkInt, mkInt_len xs]
theorem markIntS_eq (k : Nat) (xs : List Int) (hn : xs.length ≤ 1048576) (hk : xs.length < k) : laws_markIntS.f k xs 1 = some (1 + (xs.length : Int), mkInt 1 xs) := by
  have L := loop_run 0 (fun k (s : List Int × Int) i => laws_markIntS.l0 k s.1 s.2 i) xs.length (fun s i => (s.2 + ((xs.length - i : Nat) : Int), s.1.take i ++ mkInt s.2 (s.1.drop i))) (fun s i => s.1.length = xs.length ∧ 1 ≤ s.2 ∧ s.2 ≤ 1 + i) (by omega)
    (fun k s i hm hi hI ih => by
      obtain ⟨s, m⟩ := s
      obtain ⟨h1, h2, h3⟩ := hI
      simp only at h1 h2 h3
      simp only [laws_markIntS.l0]
      rw [if_pos (by omega), if_pos (by omega), wr (by omega) (by omega), Int.toNat_natCast]
      have hd := drop_at s i (by omega)
      have := ih (s.set i m, m + 1) (by simp; omega)
      simp only at this
      rw [this]
      rw [take_set1 _ _ _ (by omega), hd]
      simp only [mkInt, List.append_assoc, List.singleton_append, List.cons_append, List.nil_append]
      congr 2
      · omega
      · simp [List.drop_set])
    (fun k s hm hI => by
      simp only [laws_markIntS.l0]
      rw [if_neg (by omega), List.drop_of_length_le (by omega), List.take_of_length_le (by omega)]
      simp [mkInt]) k hk (xs, 1) (by simp)
  try dsimp only at L
  unfold laws_markIntS.f
  rw [L]
  simp

theorem heldIntS_eq (k : Nat) (xs : List Int) (hn : xs.length ≤ 1048576) (hk : xs.length < k) : laws_heldIntS.f k (mkInt 1 xs) 1 = some (1 + (xs.length : Int)) := by
  have hl := mkInt_len xs 1
  have L := loop_run 0 (fun k (m : Int) i => laws_heldIntS.l0 k (mkInt 1 xs) m i) xs.length (fun m i => m + ((xs.length - i : Nat) : Int)) (fun m i => 1 ≤ m ∧ m ≤ 1 + i ∧ (mkInt 1 xs).drop i = mkInt m (xs.drop i)) (by omega)
    (fun k m i hm hi hI ih => by
      obtain ⟨h2, h3, h4⟩ := hI
      have hd := drop_at (mkInt 1 xs) i (by omega)
      have hx := drop_at xs i hi
      have hr := rdInt (mkInt 1 xs) i (by omega)
      rw [hd, hx] at h4
      simp only [mkInt, List.cons.injEq] at h4
      obtain ⟨h5, h6⟩ := h4
      rw [h5] at hr
      simp only [laws_heldIntS.l0]
      rw [if_pos (by omega), if_pos (by omega), hr, if_pos rfl, wr (by omega) (by omega)]
      have := ih (m + 1) ⟨by omega, by omega, h6⟩
      rw [this]
      congr 1
      omega)
    (fun k m hm hI => by
      simp only [laws_heldIntS.l0]
      rw [if_neg (by omega)]
      simp) k hk 1 ⟨by omega, by omega, by simp⟩
  try dsimp only at L
  unfold laws_heldIntS.f
  rw [L]
  simp


theorem FnExactShadowedRules (l : List S65) (hm : l.length ≤ 9223372036854775807) {g : S65 → Prop} (hg : ∀ y ∈ l, g y) : ∃ k, laws_FnExactShadowedRules.f k l = some true := by
  refine ⟨l.length + l.length + 2000, ?_⟩
  unfold laws_FnExactShadowedRules.f
  rw [szRule l 1048576 (by omega) (by omega) hm]
  simp only [Option.bind_some]
  by_cases hb : (1048576 : Int) < l.length
  · rw [if_pos hb, if_pos (by omega)]
  · rw [if_neg hb, if_neg (by omega)]
    have hl : l.length ≤ 1048576 := by omega
    have hc : (l.map cvRule).length = l.length := by simp
    have hf : (shL (l.map cvRule) 0 (l.map cvRule).length).length ≤ l.length := by have := shL_len (l.map cvRule) 0 (l.map cvRule).length; omega
    simp (disch := omega) only [toRuleS_eq, impl_Shadowed_eq, spec_Shadowed_eq, Option.bind_some, eqRuleS_self, eqIntS_self, markRuleS_eq, if_true]
    rw [if_neg (by omega)]
    simp (disch := omega) only [laws_FnExactShadowedRules.j0, Bool.not_true, Bool.false_eq_true, if_false, toRuleS_eq, impl_Shadowed_eq, Option.bind_some, eqRuleS_self, eqIntS_self, markIntS_eq, heldIntS_eq, if_true]
    rw [if_neg (by omega), if_neg (by omega)]

end Go.Proofs.Ytbjhambdpjiibaa.Pure
