/- The printed function of the law FnExactEqualOutcomes answers true, for all arguments, under no condition but that each whole number is one of its kind and that each slice has a length that fits. -/
import Derived.Test.YtgcoplikbfdkoaaQFnExactEqualOutcomesx4
namespace Go.Proofs.Ytgcoplikbfdkoaa.Pure
open Go.RowKit Go.Proofs.Ytgcoplikbfdkoaa.QFnExactEqualOutcomes Go.Proofs.YtgcoplikbfdkoaaW.PrintWords Go.Proofs.YtgcoplikbfdkoaaW.PrintLast
set_option linter.unusedVariables false
set_option linter.unusedSimpArgs false
theorem wr {i : Int} (h0 : -9223372036854775808 ≤ i) (h1 : i ≤ 9223372036854775807) : wrap64 i = i := by unfold wrap64; omega
theorem beq_dec (a b : Int) : (a == b) = decide (a = b) := by by_cases h : a = b <;> simp [h]
theorem and_if (p : Prop) [Decidable p] (c : Bool) : (if p then some c else some false) = some (decide p && c) := by
  by_cases h : p <;> simp [h]
theorem or_if (p : Prop) [Decidable p] (c : Bool) : (if p then some true else some c) = some (decide p || c) := by
  by_cases h : p <;> simp [h]
def inR (a b c : Int) : Bool := decide (b ≤ a) && decide (a ≤ c)
def isPat (o s : Int) : Bool := inR o 0 9 && inR s (-1) 9
def isSit (o s : Int) : Bool := inR o 1 9 && inR s 0 9
def mtch (po ps o s : Int) : Bool := isPat po ps && (isSit o s && ((decide (po = 0) || decide (po = o)) && (decide (ps = -1) || decide (ps = s))))
def narr (po ps qo qs : Int) : Bool := isPat po ps && (isPat qo qs && ((decide (qo = 0) || decide (po = qo)) && (decide (qs = -1) || decide (ps = qs))))
def isGra (e po ps k f u : Int) : Bool := inR e 1 5 && (isPat po ps && (inR k 1 4 && (decide (0 ≤ f) && (decide (f ≤ u) && decide (u ≤ 10000)))))
def isLim (e po ps k : Int) : Bool := inR e 0 5 && (isPat po ps && inR k 0 4)
def covr (e po ps k f u : Int) (cl : Bool) (ext o s kind tick : Int) (ck : Bool) : Bool :=
  isGra e po ps k f u && (decide (e = ext) && (decide (k = kind) && (mtch po ps o s && (inR tick f u && (ck || !cl)))))
def isRul (e p po ps s a o b : Int) : Bool :=
  inR e 1 5 && (inR p 1 9 && (isPat po ps && (inR s 0 4 && ((decide (a = 1) || decide (a = 2)) && (decide (o = 0) && decide (b = 0)) || decide (a = 3) && isSit o b))))
def isReq (o s t : Int) : Bool := isSit o s && inR t 1 4
def appl (e p po ps s a o b qo qs qt : Int) : Bool := isRul e p po ps s a o b && (isReq qo qs qt && (mtch po ps qo qs && (decide (s = 0) || decide (s = qt))))
def isLen (e po ps k f u : Int) (cl : Bool) : Bool := isGra e po ps k f u && (decide (po ≠ 0) && (decide (ps ≠ -1) && ((decide (k = 1) || decide (k = 2)) && (decide (u = f + 5) && !cl))))
def isLab (x : Int) : Bool := inR x 0 1022 && decide (Int.tmod x 2 = 0)
def befo (ae ap aa ao ab be bp ba bo bb : Int) : Bool :=
  if ap = bp then (if aa = ba then (if ae = be then (if ao = bo then decide (ab < bb) else decide (ao < bo)) else decide (ae < be)) else decide (aa < ba)) else decide (bp < ap)
def within (e po ps k f u : Int) (cl : Bool) (e' po' ps' k' f' u' : Int) (cl' : Bool) : Bool :=
  isGra e po ps k f u && (isGra e' po' ps' k' f' u' && (decide (e = e') && (decide (k = k') && (narr po ps po' ps' && (decide (f' ≤ f) && (decide (u ≤ u') && (cl || !cl')))))))
theorem take_set1 {α : Type} (s : List α) (i : Nat) (v : α) (h : i < s.length) : (s.set i v).take (i + 1) = s.take i ++ [v] := by
  rw [List.take_succ_eq_append_getElem (by simpa using h), List.take_set, List.set_eq_of_length_le (by simp; omega)]
  simp
theorem loop_up {σ ρ : Type} (g : Nat → σ → Int → Option ρ) (n : Nat) (out : σ → Nat → ρ) (I : σ → Nat → Prop) (hn : n ≤ 9223372036854775806)
    (hstep : ∀ (k : Nat) (s : σ) (i : Nat), i < n → I s i → (∀ s', I s' (i + 1) → g k s' (wrap64 ((i : Int) + 1)) = some (out s' (i + 1))) → g (k + 1) s (i : Int) = some (out s i))
    (hend : ∀ (k : Nat) (s : σ), I s n → g (k + 1) s (n : Int) = some (out s n)) :
    ∀ (d k : Nat) (s : σ) (i : Nat), i + d = n → d < k → I s i → g k s (i : Int) = some (out s i) := by
  intro d
  induction d with
  | zero =>
    intro k s i hi hk hI
    obtain ⟨k, rfl⟩ : ∃ m, k = m + 1 := ⟨k - 1, by omega⟩
    obtain rfl : i = n := by omega
    exact hend k s hI
  | succ d ih =>
    intro k s i hi hk hI
    obtain ⟨k, rfl⟩ : ∃ m, k = m + 1 := ⟨k - 1, by omega⟩
    refine hstep k s i (by omega) hI fun s' hI' => ?_
    have := ih k s' (i + 1) (by omega) (by omega) hI'
    rw [wr (by omega) (by omega)]
    exact_mod_cast this
theorem loop_from {σ ρ : Type} {g : Nat → σ → Int → Option ρ} {n : Nat} {out : σ → Nat → ρ} {I : σ → Nat → Prop} (h : ∀ (d k : Nat) (s : σ) (i : Nat), i + d = n → d < k → I s i → g k s (i : Int) = some (out s i))
    (k : Nat) (hk : n < k) (s : σ) (hI : I s 0) : g k s 0 = some (out s 0) := by
  have := h n k s 0 (by omega) hk hI
  exact_mod_cast this
theorem drop_at {α : Type} (xs : List α) (i : Nat) (h : i < xs.length) : xs.drop i = xs[i] :: xs.drop (i + 1) := List.drop_eq_getElem_cons h

theorem nlt {n : Nat} : ¬ (n : Int) < (n : Int) := by omega
/-- where a list is copied element by element into a made one -/
theorem rd_at {α : Type} (z : α) (xs : List α) (i : Nat) (h : i < xs.length) : xs.getD (i : Int).toNat z = xs[i] := by simp [h]

theorem loop_upm {σ ρ : Type} (m : Nat) (g : Nat → σ → Int → Option ρ) (n : Nat) (out : σ → Nat → ρ) (I : σ → Nat → Prop) (hn : n ≤ 9223372036854775806)
    (hstep : ∀ (k : Nat) (s : σ) (i : Nat), m ≤ k → i < n → I s i → (∀ s', I s' (i + 1) → g k s' (wrap64 ((i : Int) + 1)) = some (out s' (i + 1))) → g (k + 1) s (i : Int) = some (out s i))
    (hend : ∀ (k : Nat) (s : σ), m ≤ k → I s n → g (k + 1) s (n : Int) = some (out s n)) :
    ∀ (d k : Nat) (s : σ) (i : Nat), i + d = n → d + m < k → I s i → g k s (i : Int) = some (out s i) := by
  intro d
  induction d with
  | zero =>
    intro k s i hi hk hI
    obtain ⟨k, rfl⟩ : ∃ m, k = m + 1 := ⟨k - 1, by omega⟩
    obtain rfl : i = n := by omega
    exact hend k s (by omega) hI
  | succ d ih =>
    intro k s i hi hk hI
    obtain ⟨k, rfl⟩ : ∃ m, k = m + 1 := ⟨k - 1, by omega⟩
    refine hstep k s i (by omega) (by omega) hI fun s' hI' => ?_
    have := ih k s' (i + 1) (by omega) (by omega) hI'
    rw [wr (by omega) (by omega)]
    exact_mod_cast this
theorem loop_fromm {σ ρ : Type} {m : Nat} {g : Nat → σ → Int → Option ρ} {n : Nat} {out : σ → Nat → ρ} {I : σ → Nat → Prop} (h : ∀ (d k : Nat) (s : σ) (i : Nat), i + d = n → d + m < k → I s i → g k s (i : Int) = some (out s i))
    (k : Nat) (hk : n + m < k) (s : σ) (hI : I s 0) : g k s 0 = some (out s 0) := by
  have := h n k s 0 (by omega) hk hI
  exact_mod_cast this
theorem loop_run {σ ρ : Type} (m : Nat) (g : Nat → σ → Int → Option ρ) (n : Nat) (out : σ → Nat → ρ) (I : σ → Nat → Prop) (hn : n ≤ 9223372036854775806)
    (hstep : ∀ (k : Nat) (s : σ) (i : Nat), m ≤ k → i < n → I s i → (∀ s', I s' (i + 1) → g k s' (wrap64 ((i : Int) + 1)) = some (out s' (i + 1))) → g (k + 1) s (i : Int) = some (out s i))
    (hend : ∀ (k : Nat) (s : σ), m ≤ k → I s n → g (k + 1) s (n : Int) = some (out s n)) (k : Nat) (hk : n + m < k) (s : σ) (hI : I s 0) : g k s 0 = some (out s 0) :=
  loop_fromm (loop_upm m g n out I hn hstep hend) k hk s hI
theorem if_and2 {α : Type} (a : Bool) (p : Prop) [Decidable p] (x y : α) : (if a = true then (if p then x else y) else y) = if (a && decide p) = true then x else y := by
  cases a <;> by_cases h : p <;> simp [h]

theorem if_nand {α : Type} (a b : Bool) (x y : α) : (if a = true then (if b = true then y else x) else x) = if (!(a && b)) = true then x else y := by
  cases a <;> cases b <;> simp
theorem rdSite_l (xs : List S25) (i : Nat) (h : i < xs.length) : rd_T25 xs (i : Int) = xs[i] := rd_at _ xs i h
theorem rdSite_i (xs : List S30) (i : Nat) (h : i < xs.length) : rd_T30 xs (i : Int) = xs[i] := rd_at _ xs i h

theorem szSite (xs : List S25) (a : Int) (h0 : 0 ≤ a) (h1 : a ≤ 1048576) (hl : xs.length ≤ 9223372036854775807) : laws_szSiteS.f xs a = some (if a < xs.length then -1 else a - xs.length) := by
  unfold laws_szSiteS.f
  rw [wr (by omega) (by omega)]
  by_cases h : a < xs.length
  · rw [if_pos (by omega), if_pos h]
  · rw [if_neg (by omega), if_neg h]

theorem szOut (a b c : Int) (xs : List S25) (m : Int) (h0 : 0 ≤ m) (h1 : m ≤ 1048576) (hl : xs.length ≤ 9223372036854775807) : laws_szOutcome.f a b c xs m = some (if m < xs.length then -1 else m - xs.length) := by
  unfold laws_szOutcome.f
  rw [szSite xs m h0 h1 hl]
  simp only [Option.bind_some]
  by_cases h : m < xs.length
  · rw [if_pos h, if_pos (by omega)]
  · rw [if_neg h, if_neg (by omega)]

def neqSitesEO (a b : S30) : Bool := !(a.f0 == b.f0) || (!(a.f1 == b.f1))
theorem sEO_l (k : Nat) (xs ys : List S30) (a b c d e f : Int) (hn : xs.length ≤ 1048576) (hy : xs.length = ys.length) (hk : xs.length < k) : spec_EqualOutcomes.l0 k 0 a b c xs d e f ys = some ((xs.zip ys).all fun p => !neqSitesEO p.1 p.2) := by
  have L := loop_run 0 (fun k (_ : Unit) i => spec_EqualOutcomes.l0 k i a b c xs d e f ys) xs.length (fun _ i => ((xs.drop i).zip (ys.drop i)).all fun p => !neqSitesEO p.1 p.2) (fun _ _ => True) (by omega)
    (fun k u_ i hm hi hI ih => by
      have hd := drop_at xs i hi
      have hr := rdSite_i xs i hi
      have hd2 := drop_at ys i (by omega)
      have hr2 := rdSite_i ys i (by omega)
      generalize xs[i] = r at hd hr
      generalize ys[i] = q at hd2 hr2
      have ih' := ih () trivial
      try dsimp only at ih'
      simp only [spec_EqualOutcomes.l0]
      rw [if_pos (by omega), if_pos (by omega), if_pos (by omega)]
      simp only [hr, hr2]
      rw [hd, hd2, List.zip_cons_cons, List.all_cons, ih']
      show (if neqSitesEO r q = true then some false else _) = _
      cases neqSitesEO r q <;> simp)
    (fun k u_ hm hI => by
      simp only [spec_EqualOutcomes.l0]
      rw [if_neg nlt, List.drop_of_length_le (Nat.le_refl _)]
      rfl) k hk () trivial
  try dsimp only at L
  rw [L]
  rfl

theorem spec_eqo (k : Nat) (a b c : Int) (xs : List S30) (d e f : Int) (ys : List S30) (hn : xs.length ≤ 1048576) (hk : xs.length + 1 < k) :
    spec_EqualOutcomes.f k a b c xs d e f ys = some (decide (a = d) && (decide (b = e) && (decide (c = f) && (decide (xs.length = ys.length) && (xs.zip ys).all fun p => !neqSitesEO p.1 p.2)))) := by
  obtain ⟨k, rfl⟩ : ∃ m, k = m + 1 := ⟨k - 1, by omega⟩
  unfold spec_EqualOutcomes.f
  simp only [spec_EqualOutcomes.j0]
  by_cases hl : xs.length = ys.length
  · have hl2 : ((xs.length : Int) != (ys.length : Int)) = false := by simp [hl]
    have L := sEO_l k xs ys a b c d e f hn hl (by omega)
    rw [L, hl2]
    by_cases h1 : a = d <;> by_cases h2 : b = e <;> by_cases h3 : c = f <;> simp [h1, h2, h3, hl]
  · have hl2 : ((xs.length : Int) != (ys.length : Int)) = true := by simp; omega
    rw [hl2]
    by_cases h1 : a = d <;> by_cases h2 : b = e <;> by_cases h3 : c = f <;> simp [h1, h2, h3, hl]

theorem toSite_eq (a0 : Int) (a1 : Int) : laws_toSite.f a0 a1 = some (a0, a1) := by
  unfold laws_toSite.f; rfl

def cvSite (r : S25) : S30 := ⟨r.f0, r.f1⟩
theorem toSiteS_eq (k : Nat) (xs : List S25) (hn : xs.length ≤ 1048576) (hk : xs.length < k) : laws_toSiteS.f k xs = some (xs.map cvSite) := by
  have L := loop_up (fun k (s : List S30) i => laws_toSiteS.l0 k xs s i) xs.length (fun s i => s.take i ++ (xs.drop i).map cvSite) (fun s _ => s.length = xs.length) (by omega)
    (fun k s i hi hI ih => by
      simp only [laws_toSiteS.l0]
      rw [if_pos (by omega), if_pos (by omega), rdSite_l xs i hi, toSite_eq]
      simp only [Option.bind_some]
      rw [if_pos (by omega), ih _ (by simp [hI]), Int.toNat_natCast, take_set1 _ _ _ (by omega), drop_at xs i hi, List.map_cons, List.append_assoc]
      rfl)
    (fun k s hI => by
      simp only [laws_toSiteS.l0]
      rw [if_neg nlt, List.drop_of_length_le (Nat.le_refl _), List.take_of_length_le (by omega)]
      simp)
  unfold laws_toSiteS.f
  rw [if_pos (by omega), if_pos (by omega)]
  rw [loop_from L k hk _ (by simp)]
  simp

theorem toOut_eq (k : Nat) (a b c : Int) (xs : List S25) (hn : xs.length ≤ 1048576) (hk : xs.length < k) : laws_toOutcome.f k a b c xs = some (a, b, c, xs.map cvSite) := by
  unfold laws_toOutcome.f
  rw [toSiteS_eq k xs hn hk]; rfl

def neqSiteiES (a b : S30) : Bool := !(a.f0 == b.f0) || (!(a.f1 == b.f1))
theorem iES_l (k : Nat) (xs ys : List S30) (hn : xs.length ≤ 1048576) (hy : xs.length = ys.length) (hk : xs.length < k) : impl_Site.l0 k xs ys (xs.length : Int) 0 = some ((xs.zip ys).all fun p => !neqSiteiES p.1 p.2) := by
  have L := loop_run 0 (fun k (_ : Unit) i => impl_Site.l0 k xs ys (xs.length : Int) i) xs.length (fun _ i => ((xs.drop i).zip (ys.drop i)).all fun p => !neqSiteiES p.1 p.2) (fun _ _ => True) (by omega)
    (fun k u_ i hm hi hI ih => by
      have hd := drop_at xs i hi
      have hr := rdSite_i xs i hi
      have hd2 := drop_at ys i (by omega)
      have hr2 := rdSite_i ys i (by omega)
      generalize xs[i] = r at hd hr
      generalize ys[i] = q at hd2 hr2
      have ih' := ih () trivial
      try dsimp only at ih'
      simp only [impl_Site.l0]
      rw [if_pos (by omega), if_pos (by omega), if_pos (by omega), if_pos (by omega)]
      simp only [hr, hr2]
      rw [hd, hd2, List.zip_cons_cons, List.all_cons, ih']
      show (if neqSiteiES r q = true then some false else _) = _
      cases neqSiteiES r q <;> simp)
    (fun k u_ hm hI => by
      simp only [impl_Site.l0]
      rw [if_neg nlt, List.drop_of_length_le (Nat.le_refl _)]
      rfl) k hk () trivial
  try dsimp only at L
  rw [L]
  rfl

theorem eqSite_lib (k : Nat) (xs ys : List S30) (hn : xs.length ≤ 1048576) (hk : xs.length < k) : impl_Site.f k xs ys = some (decide (xs.length = ys.length) && (xs.zip ys).all fun p => !neqSiteiES p.1 p.2) := by
  unfold impl_Site.f
  by_cases h : xs.length = ys.length
  · rw [if_pos (by omega), iES_l k xs ys hn h hk]; simp [h]
  · rw [if_neg (by omega)]; simp [h]

def eqoM (a b c : Int) (xs : List S30) (d e f : Int) (ys : List S30) : Bool := decide (a = d) && (decide (b = e) && (decide (c = f) && (decide (xs.length = ys.length) && (xs.zip ys).all fun p => !neqSiteiES p.1 p.2)))
theorem impl_eqo (k : Nat) (a b c : Int) (xs : List S30) (d e f : Int) (ys : List S30) (hn : xs.length ≤ 1048576) (hk : xs.length < k) : impl_EqualOutcomes.f k a b c xs d e f ys = some (eqoM a b c xs d e f ys) := by
  unfold impl_EqualOutcomes.f eqoM
  rw [eqSite_lib k xs ys hn hk]
  by_cases h1 : a = d <;> by_cases h2 : b = e <;> by_cases h3 : c = f <;> simp [h1, h2, h3]

theorem eqSite_self (a0 : Int) (a1 : Int) : laws_eqSite.f a0 a1 a0 a1 = some true := by
  simp [laws_eqSite.f]

theorem eqSiteS_self (k : Nat) (xs : List S30) (hn : xs.length ≤ 1048576) (hk : xs.length < k) : laws_eqSiteS.f k xs xs = some true := by
  have L := loop_up (fun k (_ : Unit) i => laws_eqSiteS.l0 k xs xs i) xs.length (fun _ _ => true) (fun _ _ => True) (by omega)
    (fun k s i hi hI ih => by
      simp only [laws_eqSiteS.l0]
      rw [if_pos (by omega), if_pos (by omega), if_pos (by omega)]
      simp only [eqSite_self, Option.bind_some, if_true]
      exact ih () trivial)
    (fun k s hI => by
      simp only [laws_eqSiteS.l0]
      rw [if_neg nlt])
  unfold laws_eqSiteS.f
  rw [if_pos rfl]
  exact loop_from L k hk () trivial

theorem eqOut_self (k : Nat) (a b c : Int) (xs : List S30) (hn : xs.length ≤ 1048576) (hk : xs.length < k) : laws_eqOutcome.f k a b c xs a b c xs = some true := by
  unfold laws_eqOutcome.f
  simp only [eqSite_self, eqSiteS_self k xs hn hk, Option.bind_some, if_true]


theorem FnExactEqualOutcomes (a b c : Int) (l : List S25) (d e f : Int) (q : List S25) (_ : (Lit.int .i64 a).wf = true) (_ : (Lit.int .i64 b).wf = true) (_ : (Lit.int .i64 c).wf = true) (hm : l.length ≤ 9223372036854775807) {g : S25 → Prop} (hg : ∀ y ∈ l, g y)
    (_ : (Lit.int .i64 d).wf = true) (_ : (Lit.int .i64 e).wf = true) (_ : (Lit.int .i64 f).wf = true) (hm2 : q.length ≤ 9223372036854775807) (hg2 : ∀ y ∈ q, g y) : ∃ k, laws_FnExactEqualOutcomes.f k a b c l d e f q = some true := by
  refine ⟨l.length + q.length + 10, ?_⟩
  unfold laws_FnExactEqualOutcomes.f
  rw [szOut a b c l 1048576 (by omega) (by omega) hm]
  simp only [Option.bind_some]
  by_cases hb : (1048576 : Int) < l.length
  · rw [if_pos hb, if_pos (by omega)]
  · rw [if_neg hb, if_neg (by omega)]
    rw [szOut d e f q _ (by omega) (by omega) hm2]
    simp only [Option.bind_some]
    by_cases hb2 : (1048576 : Int) - l.length < q.length
    · rw [if_pos hb2, if_pos (by omega)]
    · rw [if_neg hb2, if_neg (by omega)]
      have hl : l.length ≤ 1048576 := by omega
      have hq : q.length ≤ 1048576 := by omega
      have hc : (l.map cvSite).length = l.length := by simp
      have hc2 : (q.map cvSite).length = q.length := by simp
      have he : neqSitesEO = neqSiteiES := rfl
      simp (disch := omega) only [toOut_eq, impl_eqo, spec_eqo, he, eqoM, Option.bind_some, bne_self_eq_false, Bool.false_eq_true, if_false, eqOut_self, if_true]

end Go.Proofs.Ytgcoplikbfdkoaa.Pure
