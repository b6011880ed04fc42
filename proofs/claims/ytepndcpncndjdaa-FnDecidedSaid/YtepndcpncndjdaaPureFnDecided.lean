/- The printed function of the law FnDecided answers true, for all arguments, under no condition but that each whole number is one of its kind and that each slice has a length that fits. -/
import Derived.Test.YtepndcpncndjdaaQSx78
namespace Go.Proofs.Ytepndcpncndjdaa.Pure
open Go.RowKit Go.Proofs.Ytepndcpncndjdaa.QS Go.Proofs.YtepndcpncndjdaaW.PrintWords Go.Proofs.YtepndcpncndjdaaW.PrintLast
set_option linter.unusedVariables false
set_option linter.unusedSimpArgs false
theorem wr {i : Int} (h0 : -9223372036854775808 ≤ i) (h1 : i ≤ 9223372036854775807) : wrap64 i = i := by unfold wrap64; omega
theorem beq_dec (a b : Int) : (a == b) = decide (a = b) := by by_cases h : a = b <;> simp [h]
theorem and_if (p : Prop) [Decidable p] (c : Bool) : (if p then some c else some false) = some (decide p && c) := by
  by_cases h : p <;> simp [h]
theorem or_if (p : Prop) [Decidable p] (c : Bool) : (if p then some true else some c) = some (decide p || c) := by
  by_cases h : p <;> simp [h]
def inR (a b c : Int) : Bool := decide (b ≤ a) && decide (a ≤ c)
def isPat (o s : Int) : Bool := inR o 0 9 && inR s (-1) 9
def isSit (o s : Int) : Bool := inR o 1 9 && inR s 0 9
def mtch (po ps o s : Int) : Bool := isPat po ps && (isSit o s && ((decide (po = 0) || decide (po = o)) && (decide (ps = -1) || decide (ps = s))))
def narr (po ps qo qs : Int) : Bool := isPat po ps && (isPat qo qs && ((decide (qo = 0) || decide (po = qo)) && (decide (qs = -1) || decide (ps = qs))))
def isGra (e po ps k f u : Int) : Bool := inR e 1 5 && (isPat po ps && (inR k 1 4 && (decide (0 ≤ f) && (decide (f ≤ u) && decide (u ≤ 10000)))))
def isLim (e po ps k : Int) : Bool := inR e 0 5 && (isPat po ps && inR k 0 4)
def covr (e po ps k f u : Int) (cl : Bool) (ext o s kind tick : Int) (ck : Bool) : Bool :=
  isGra e po ps k f u && (decide (e = ext) && (decide (k = kind) && (mtch po ps o s && (inR tick f u && (ck || !cl)))))
def isRul (e p po ps s a o b : Int) : Bool :=
  inR e 1 5 && (inR p 1 9 && (isPat po ps && (inR s 0 4 && ((decide (a = 1) || decide (a = 2)) && (decide (o = 0) && decide (b = 0)) || decide (a = 3) && isSit o b))))
def isReq (o s t : Int) : Bool := isSit o s && inR t 1 4
def appl (e p po ps s a o b qo qs qt : Int) : Bool := isRul e p po ps s a o b && (isReq qo qs qt && (mtch po ps qo qs && (decide (s = 0) || decide (s = qt))))
def isLen (e po ps k f u : Int) (cl : Bool) : Bool := isGra e po ps k f u && (decide (po ≠ 0) && (decide (ps ≠ -1) && ((decide (k = 1) || decide (k = 2)) && (decide (u = f + 5) && !cl))))
def isLab (x : Int) : Bool := inR x 0 1022 && decide (Int.tmod x 2 = 0)
def befo (ae ap aa ao ab be bp ba bo bb : Int) : Bool :=
  if ap = bp then (if aa = ba then (if ae = be then (if ao = bo then decide (ab < bb) else decide (ao < bo)) else decide (ae < be)) else decide (aa < ba)) else decide (bp < ap)
def within (e po ps k f u : Int) (cl : Bool) (e' po' ps' k' f' u' : Int) (cl' : Bool) : Bool :=
  isGra e po ps k f u && (isGra e' po' ps' k' f' u' && (decide (e = e') && (decide (k = k') && (narr po ps po' ps' && (decide (f' ≤ f) && (decide (u ≤ u') && (cl || !cl')))))))
theorem take_set1 {α : Type} (s : List α) (i : Nat) (v : α) (h : i < s.length) : (s.set i v).take (i + 1) = s.take i ++ [v] := by
  rw [List.take_succ_eq_append_getElem (by simpa using h), List.take_set, List.set_eq_of_length_le (by simp; omega)]
  simp
theorem loop_up {σ ρ : Type} (g : Nat → σ → Int → Option ρ) (n : Nat) (out : σ → Nat → ρ) (I : σ → Nat → Prop) (hn : n ≤ 9223372036854775806)
    (hstep : ∀ (k : Nat) (s : σ) (i : Nat), i < n → I s i → (∀ s', I s' (i + 1) → g k s' (wrap64 ((i : Int) + 1)) = some (out s' (i + 1))) → g (k + 1) s (i : Int) = some (out s i))
    (hend : ∀ (k : Nat) (s : σ), I s n → g (k + 1) s (n : Int) = some (out s n)) :
    ∀ (d k : Nat) (s : σ) (i : Nat), i + d = n → d < k → I s i → g k s (i : Int) = some (out s i) := by
  intro d
  induction d with
  | zero =>
    intro k s i hi hk hI
    obtain ⟨k, rfl⟩ : ∃ m, k = m + 1 := ⟨k - 1, by omega⟩
    obtain rfl : i = n := by omega
    exact hend k s hI
  | succ d ih =>
    intro k s i hi hk hI
    obtain ⟨k, rfl⟩ : ∃ m, k = m + 1 := ⟨k - 1, by omega⟩
    refine hstep k s i (by omega) hI fun s' hI' => ?_
    have := ih k s' (i + 1) (by omega) (by omega) hI'
    rw [wr (by omega) (by omega)]
    exact_mod_cast this
theorem loop_from {σ ρ : Type} {g : Nat → σ → Int → Option ρ} {n : Nat} {out : σ → Nat → ρ} {I : σ → Nat → Prop} (h : ∀ (d k : Nat) (s : σ) (i : Nat), i + d = n → d < k → I s i → g k s (i : Int) = some (out s i))
    (k : Nat) (hk : n < k) (s : σ) (hI : I s 0) : g k s 0 = some (out s 0) := by
  have := h n k s 0 (by omega) hk hI
  exact_mod_cast this
theorem drop_at {α : Type} (xs : List α) (i : Nat) (h : i < xs.length) : xs.drop i = xs[i] :: xs.drop (i + 1) := List.drop_eq_getElem_cons h

theorem nlt {n : Nat} : ¬ (n : Int) < (n : Int) := by omega
/-- where a list is copied element by element into a made one -/
theorem rd_at {α : Type} (z : α) (xs : List α) (i : Nat) (h : i < xs.length) : xs.getD (i : Int).toNat z = xs[i] := by simp [h]

theorem loop_upm {σ ρ : Type} (m : Nat) (g : Nat → σ → Int → Option ρ) (n : Nat) (out : σ → Nat → ρ) (I : σ → Nat → Prop) (hn : n ≤ 9223372036854775806)
    (hstep : ∀ (k : Nat) (s : σ) (i : Nat), m ≤ k → i < n → I s i → (∀ s', I s' (i + 1) → g k s' (wrap64 ((i : Int) + 1)) = some (out s' (i + 1))) → g (k + 1) s (i : Int) = some (out s i))
    (hend : ∀ (k : Nat) (s : σ), m ≤ k → I s n → g (k + 1) s (n : Int) = some (out s n)) :
    ∀ (d k : Nat) (s : σ) (i : Nat), i + d = n → d + m < k → I s i → g k s (i : Int) = some (out s i) := by
  intro d
  induction d with
  | zero =>
    intro k s i hi hk hI
    obtain ⟨k, rfl⟩ : ∃ m, k = m + 1 := ⟨k - 1, by omega⟩
    obtain rfl : i = n := by omega
    exact hend k s (by omega) hI
  | succ d ih =>
    intro k s i hi hk hI
    obtain ⟨k, rfl⟩ : ∃ m, k = m + 1 := ⟨k - 1, by omega⟩
    refine hstep k s i (by omega) (by omega) hI fun s' hI' => ?_
    have := ih k s' (i + 1) (by omega) (by omega) hI'
    rw [wr (by omega) (by omega)]
    exact_mod_cast this
theorem loop_fromm {σ ρ : Type} {m : Nat} {g : Nat → σ → Int → Option ρ} {n : Nat} {out : σ → Nat → ρ} {I : σ → Nat → Prop} (h : ∀ (d k : Nat) (s : σ) (i : Nat), i + d = n → d + m < k → I s i → g k s (i : Int) = some (out s i))
    (k : Nat) (hk : n + m < k) (s : σ) (hI : I s 0) : g k s 0 = some (out s 0) := by
  have := h n k s 0 (by omega) hk hI
  exact_mod_cast this
theorem loop_run {σ ρ : Type} (m : Nat) (g : Nat → σ → Int → Option ρ) (n : Nat) (out : σ → Nat → ρ) (I : σ → Nat → Prop) (hn : n ≤ 9223372036854775806)
    (hstep : ∀ (k : Nat) (s : σ) (i : Nat), m ≤ k → i < n → I s i → (∀ s', I s' (i + 1) → g k s' (wrap64 ((i : Int) + 1)) = some (out s' (i + 1))) → g (k + 1) s (i : Int) = some (out s i))
    (hend : ∀ (k : Nat) (s : σ), m ≤ k → I s n → g (k + 1) s (n : Int) = some (out s n)) (k : Nat) (hk : n + m < k) (s : σ) (hI : I s 0) : g k s 0 = some (out s 0) :=
  loop_fromm (loop_upm m g n out I hn hstep hend) k hk s hI
theorem if_and2 {α : Type} (a : Bool) (p : Prop) [Decidable p] (x y : α) : (if a = true then (if p then x else y) else y) = if (a && decide p) = true then x else y := by
  cases a <;> by_cases h : p <;> simp [h]

theorem if_nand {α : Type} (a b : Bool) (x y : α) : (if a = true then (if b = true then y else x) else x) = if (!(a && b)) = true then x else y := by
  cases a <;> cases b <;> simp
theorem rdPattern_i (xs : List S35) (i : Nat) (h : i < xs.length) : rd_T35 xs (i : Int) = xs[i] := rd_at _ xs i h
theorem rdSite_i (xs : List S26) (i : Nat) (h : i < xs.length) : rd_T26 xs (i : Int) = xs[i] := rd_at _ xs i h
theorem rdRule_i (xs : List S37) (i : Nat) (h : i < xs.length) : rd_T37 xs (i : Int) = xs[i] := rd_at _ xs i h
theorem rdPattern_l (xs : List S70) (i : Nat) (h : i < xs.length) : rd_T70 xs (i : Int) = xs[i] := rd_at _ xs i h
theorem rdSite_l (xs : List S71) (i : Nat) (h : i < xs.length) : rd_T71 xs (i : Int) = xs[i] := rd_at _ xs i h
theorem rdRule_l (xs : List S73) (i : Nat) (h : i < xs.length) : rd_T73 xs (i : Int) = xs[i] := rd_at _ xs i h

def appS (r : S37) (qo qs qt : Int) : Bool := appl r.f0 r.f1 r.f2.f0 r.f2.f1 r.f3 r.f4 r.f5.f0 r.f5.f1 qo qs qt
def befS (a b : S37) : Bool := befo a.f0 a.f1 a.f4 a.f5.f0 a.f5.f1 b.f0 b.f1 b.f4 b.f5.f0 b.f5.f1
def dFrom (xs : List S37) (qo qs qt : Int) : List S37 → Nat → Int → Int
  | [], _, b => b
  | r :: rs, i, b => dFrom xs qo qs qt rs (i + 1) (if (appS r qo qs qt && (decide (b < 0) || befS r (rd_T37 xs b))) = true then (i : Int) else b)
def decM (xs : List S37) (qo qs qt : Int) : Int := dFrom xs qo qs qt xs 0 (-1)
theorem dFrom_range (xs : List S37) (qo qs qt : Int) : ∀ (rs : List S37) (i : Nat) (b : Int), -1 ≤ b → b < i → -1 ≤ dFrom xs qo qs qt rs i b ∧ dFrom xs qo qs qt rs i b < i + rs.length
  | [], i, b, h0, h1 => by simp [dFrom]; omega
  | r :: rs, i, b, h0, h1 => by
    simp only [dFrom]
    have := dFrom_range xs qo qs qt rs (i + 1) (if (appS r qo qs qt && (decide (b < 0) || befS r (rd_T37 xs b))) = true then (i : Int) else b) (by split <;> omega) (by split <;> omega)
    simp only [List.length_cons]
    omega
theorem decM_range (xs : List S37) (qo qs qt : Int) : -1 ≤ decM xs qo qs qt ∧ decM xs qo qs qt < xs.length := by
  have := dFrom_range xs qo qs qt xs 0 (-1) (by omega) (by omega)
  simpa [decM] using this

def aFrom (qo qs qt : Int) : List S37 → Nat → List Int
  | [], _ => []
  | r :: rs, i => (if appS r qo qs qt = true then [(i : Int)] else []) ++ aFrom qo qs qt rs (i + 1)
theorem aFrom_mem (qo qs qt : Int) : ∀ (rs : List S37) (i : Nat) (x : Int), x ∈ aFrom qo qs qt rs i → (i : Int) ≤ x ∧ x < i + rs.length
  | [], i, x, h => by simp [aFrom] at h
  | r :: rs, i, x, h => by
    simp only [aFrom, List.mem_append] at h
    rcases h with h | h
    · split at h
      · simp at h; simp; omega
      · simp at h
    · have := aFrom_mem qo qs qt rs (i + 1) x h
      simp; omega
theorem aFrom_len (qo qs qt : Int) : ∀ (rs : List S37) (i : Nat), (aFrom qo qs qt rs i).length ≤ rs.length
  | [], i => by simp [aFrom]
  | r :: rs, i => by
    have := aFrom_len qo qs qt rs (i + 1)
    simp only [aFrom, List.length_append, List.length_cons]
    split <;> simp <;> omega

def vR (r : S37) : Bool := isRul r.f0 r.f1 r.f2.f0 r.f2.f1 r.f3 r.f4 r.f5.f0 r.f5.f1
def sortR (xs : List S37) : List S37 := Stab.isort (ltOf cfR) (xs.filter vR)
theorem sortR_len (xs : List S37) : (sortR xs).length ≤ xs.length := by unfold sortR; rw [Stab.isort_len]; exact List.length_filter_le _ _
theorem befo_cf (x y : S37) : befo x.f0 x.f1 x.f4 x.f5.f0 x.f5.f1 y.f0 y.f1 y.f4 y.f5.f0 y.f5.f1 = ltOf cfR x y := by
  have hn : ∀ a b : Int, (cmpI a b < 0 ↔ a < b) ∧ (cmpI a b = 0 ↔ a = b) := fun a b => by
    unfold cmpI
    constructor
    · repeat' split
      all_goals omega
    · repeat' split
      all_goals omega
  have h0 : ∀ a b : Int, a = 0 → orI a b = b := fun a b h => if_pos h
  have h1 : ∀ a b : Int, ¬ a = 0 → orI a b = a := fun a b h => if_neg h
  unfold befo ltOf cfR
  by_cases c1 : x.f1 = y.f1
  · rw [if_pos c1, h0 _ _ ((hn _ _).2.2 c1.symm)]
    by_cases c2 : x.f4 = y.f4
    · rw [if_pos c2, h0 _ _ ((hn _ _).2.2 c2)]
      by_cases c3 : x.f0 = y.f0
      · rw [if_pos c3, h0 _ _ ((hn _ _).2.2 c3)]
        by_cases c4 : x.f5.f0 = y.f5.f0
        · rw [if_pos c4, h0 _ _ ((hn _ _).2.2 c4)]
          exact decide_eq_decide.2 (hn _ _).1.symm
        · rw [if_neg c4, h1 _ _ (fun h => c4 ((hn _ _).2.1 h))]
          exact decide_eq_decide.2 (hn _ _).1.symm
      · rw [if_neg c3, h1 _ _ (fun h => c3 ((hn _ _).2.1 h))]
        exact decide_eq_decide.2 (hn _ _).1.symm
    · rw [if_neg c2, h1 _ _ (fun h => c2 ((hn _ _).2.1 h))]
      exact decide_eq_decide.2 (hn _ _).1.symm
  · rw [if_neg c1, h1 _ _ (fun h => c1 ((hn _ _).2.1 h).symm)]
    exact decide_eq_decide.2 (hn _ _).1.symm

theorem impl_in (a b c : Int) : impl_InRange.f a b c = some (inR a b c) := by
  unfold impl_InRange.f inR; exact and_if _ _


theorem impl_pat (a b : Int) : impl_IsPattern.f a b = some (isPat a b) := by
  unfold impl_IsPattern.f isPat; simp only [impl_in, Option.bind_some]; cases inR a 0 9 <;> simp


theorem impl_sit (a b : Int) : impl_IsSite.f a b = some (isSit a b) := by
  unfold impl_IsSite.f isSit; simp only [impl_in, Option.bind_some]; cases inR a 1 9 <;> simp


theorem impl_rul (n : Nat) (e p po ps s a o b : Int) : impl_IsRule.f (n + 2) e p po ps s a o b = some (isRul e p po ps s a o b) := by
  unfold impl_IsRule.f isRul; simp only [impl_in, impl_pat, Option.bind_some, impl_IsRule.j0, impl_IsRule.j1, impl_sit]
  cases inR e 1 5 <;> cases inR p 1 9 <;> cases isPat po ps <;> cases inR s 0 4 <;> simp
  by_cases h1 : a = 1
  · subst h1; simp [beq_dec]
  · by_cases h2 : a = 2
    · subst h2; simp [beq_dec]
    · by_cases h3 : a = 3
      · subst h3; simp
      · simp [h1, h2, h3]


theorem insRev_stop {α : Type} (lt : α → α → Bool) (x : α) : ∀ (A B : List α), (∀ s ∈ A, lt x s = true) → (∀ y, B.head? = some y → lt x y = false) → Stab.insRev lt x (A ++ B) = A ++ x :: B
  | [], [], _, _ => rfl
  | [], y :: B, _, h => by
    show (if lt x y = true then _ else _) = _
    rw [if_neg (by rw [h y rfl]; simp)]
    rfl
  | a :: A, B, h, hB => by
    show (if lt x a = true then _ else _) = _
    rw [if_pos (h a List.mem_cons_self)]
    show a :: Stab.insRev lt x (A ++ B) = _
    rw [insRev_stop lt x A B (fun s hs => h s (List.mem_cons_of_mem _ hs)) hB]
    rfl
theorem insR_at {α : Type} (lt : α → α → Bool) (x : α) (S : List α) (p : Nat) (hp : p ≤ S.length) (h1 : ∀ s ∈ S.drop p, lt x s = true) (h2 : ∀ q (hq : q < S.length), p = q + 1 → lt x S[q] = false) : Stab.insR lt x S = ((([] : List α) ++ S.take p) ++ [x]) ++ S.drop p := by
  unfold Stab.insR
  have e : S.reverse = (S.drop p).reverse ++ (S.take p).reverse := by rw [← List.reverse_append, List.take_append_drop]
  rw [e, insRev_stop lt x (S.drop p).reverse (S.take p).reverse (fun s hs => h1 s (List.mem_reverse.1 hs)) ?_]
  · simp
  · intro y hy
    rw [List.head?_reverse, List.getLast?_eq_getElem?, List.length_take, Nat.min_eq_left hp] at hy
    cases p with
    | zero => simp at hy
    | succ q =>
      have hq : q < S.length := by omega
      rw [List.getElem?_take_of_lt (by omega), show q + 1 - 1 = q by omega, List.getElem?_eq_getElem hq] at hy
      obtain rfl := Option.some.inj hy
      exact h2 q hq rfl
theorem insR_lenR (x : S37) (S : List S37) : (Stab.insR (ltOf cfR) x S).length = S.length + 1 := Stab.insR_len (ltOf cfR) x S

theorem impl_SortRules_eq (k : Nat) (xs : List S37) (hn : xs.length ≤ 1048576) (hk : xs.length + 2 < k) : impl_SortRules.f k xs = some (sortR xs) := by
  have L := loop_run 2 (fun k (s : List S37) i => impl_SortRules.l0 k s xs (xs.length : Int) i) xs.length (fun s i => Stab.isort (ltOf cfR) (s ++ (xs.drop i).filter vR)) (fun s i => s.length ≤ i) (by omega)
    (fun k s i hm hi hI ih => by
      have hd := drop_at xs i hi
      have hr := rdRule_i xs i hi
      generalize xs[i] = r at hd hr
      simp only [impl_SortRules.l0]
      obtain ⟨k, rfl⟩ : ∃ z, k = z + 2 := ⟨k - 2, by omega⟩
      rw [if_pos (by omega), if_pos (by omega), if_pos (by omega)]
      simp only [hr, impl_rul, Option.bind_some]
      rw [hd]
      by_cases hp : vR r = true
      · have hp' := hp
        unfold vR at hp
        rw [if_pos hp, if_pos (by omega), ih _ (by simp; omega)]
        simp only [List.filter_cons, hp', ↓reduceIte, List.append_assoc]
        rfl
      · have hp' := hp
        unfold vR at hp
        rw [if_neg hp, ih _ (by omega)]
        simp only [List.filter_cons, hp', ↓reduceIte, Bool.false_eq_true])
    (fun k s hm hI => by
      simp only [impl_SortRules.l0]
      rw [if_neg nlt, List.drop_of_length_le (Nat.le_refl _), if_pos (by omega)]
      simp) k hk [] (by simp)
  try dsimp only at L
  unfold impl_SortRules.f sortR
  rw [L]
  simp

theorem or5 (n : Nat) (a b c d e : Int) : cmp_Or_int.f (n + 6) [a, b, c, d, e] = some (if a = 0 then (if b = 0 then (if c = 0 then (if d = 0 then e else d) else c) else b) else a) := by
  have w0 : wrap64 (0 + 1) = 1 := wr (by omega) (by omega)
  have w1 : wrap64 (1 + 1) = 2 := wr (by omega) (by omega)
  have w2 : wrap64 (2 + 1) = 3 := wr (by omega) (by omega)
  have w3 : wrap64 (3 + 1) = 4 := wr (by omega) (by omega)
  have w4 : wrap64 (4 + 1) = 5 := wr (by omega) (by omega)
  unfold cmp_Or_int.f
  simp only [cmp_Or_int.l0, w0, w1, w2, w3, w4]
  by_cases h1 : a = 0 <;> by_cases h2 : b = 0 <;> by_cases h3 : c = 0 <;> by_cases h4 : d = 0 <;> by_cases h5 : e = 0 <;> simp [h1, h2, h3, h4, h5, rd]

theorem cmp_eq (a b : Int) : cmp_Compare_int.f a b = some (if a < b then -1 else if a > b then 1 else 0) := by
  unfold cmp_Compare_int.f cmp_isNaN_int.f; simp only [Option.bind_some, bne_self_eq_false]
  by_cases h1 : a < b <;> by_cases h2 : a > b <;> simp [h1, h2]


theorem bind_ok {α β : Type} {o : Option α} {f : α → Option β} {Q : α → Prop} {R : β → Prop} (h : ∃ r, o = some r ∧ Q r) (hf : ∀ r, Q r → ∃ y, f r = some y ∧ R y) : ∃ y, o.bind f = some y ∧ R y := by
  obtain ⟨r, rfl, q⟩ := h; exact hf r q
theorem if_ok {β : Type} {p : Prop} [Decidable p] {a b : Option β} {R : β → Prop} (h : p → ∃ y, a = some y ∧ R y) (h' : ¬ p → ∃ y, b = some y ∧ R y) : ∃ y, (if p then a else b) = some y ∧ R y := by
  by_cases c : p
  · rw [if_pos c]; exact h c
  · rw [if_neg c]; exact h' c
theorem and255 (a : Int) : 0 ≤ Go.bits .and .i64 a 255 ∧ Go.bits .and .i64 a 255 ≤ 255 := by
  have h : ((BitVec.ofInt (IntKind.bits .i64) a) &&& (BitVec.ofInt (IntKind.bits .i64) 255)).toNat ≤ 255 := by
    rw [BitVec.toNat_and]; exact Nat.le_trans Nat.and_le_right (by decide)
  show 0 ≤ IntKind.wrap .i64 _ ∧ IntKind.wrap .i64 _ ≤ 255
  generalize ((BitVec.ofInt (IntKind.bits .i64) a) &&& (BitVec.ofInt (IntKind.bits .i64) 255)).toNat = n at h
  have e : IntKind.wrap .i64 (n : Int) = (n : Int) := by rw [i64_w]; exact wr (i := (n : Int)) (by omega) (by omega)
  rw [e]; omega

theorem new_ok (s : List Int) (hs : s.length ≤ 1048576) : ∀ (d k : Nat) (y : Int) (i : Nat), i + d = s.length → d < k → ∃ r, spec_l1New.l0 k s y (i : Int) = some r ∧ r.1 = s ∧ r.2.1 = 0 := by
  intro d
  induction d with
  | zero =>
    intro k y i hi hk
    obtain ⟨k, rfl⟩ : ∃ m, k = m + 1 := ⟨k - 1, by omega⟩
    simp only [spec_l1New.l0]
    rw [if_neg (by omega)]
    exact ⟨_, rfl, rfl, rfl⟩
  | succ d ih =>
    intro k y i hi hk
    obtain ⟨k, rfl⟩ : ∃ m, k = m + 1 := ⟨k - 1, by omega⟩
    simp only [spec_l1New.l0]
    rw [if_pos (by omega)]
    refine if_ok (fun _ => ?_) (fun _ => ⟨_, rfl, rfl, rfl⟩)
    rw [if_pos (by omega), wr (i := (i : Int) + 1) (by omega) (by omega)]
    exact ih k _ (i + 1) (by omega) (by omega)
theorem l1New_ok (k : Nat) (s : List Int) (hs : s.length ≤ 1048576) (hk : s.length < k) : ∃ r, spec_l1New.f k s = some r ∧ r.1 = s ∧ r.2.1 = 0 := by
  unfold spec_l1New.f
  exact new_ok s hs s.length k _ 0 (by omega) hk


theorem byte_ok (s : List Int) (p x : Int) (hs : s.length ≤ 1048576) (hp : 0 ≤ p) : ∃ r, spec_l1Byte.f s p x = some r ∧ (0 ≤ r.1 ∧ r.1 ≤ 255) ∧ 0 ≤ r.2.1 := by
  unfold spec_l1Byte.f
  refine if_ok (fun h => ?_) (fun _ => ⟨_, rfl, and255 _, hp⟩)
  rw [if_pos hp, wr (i := p + 1) (by omega) (by omega)]
  exact ⟨_, rfl, and255 _, by show (0 : Int) ≤ p + 1; omega⟩


theorem below_ok (s : List Int) (p x n : Int) (hs : s.length ≤ 1048576) (hp : 0 ≤ p) (h0 : 0 < n) (h1 : n ≤ 256) : ∃ r, spec_l1Below.f s p x n = some r ∧ (0 ≤ r.1 ∧ r.1 < n) ∧ 0 ≤ r.2.1 := by
  unfold spec_l1Below.f
  rw [if_neg (by omega), if_pos h1]
  refine bind_ok (byte_ok s p x hs hp) fun r hr => ?_
  rw [if_neg (by omega)]
  exact ⟨_, rfl, ⟨Int.tmod_nonneg _ hr.1.1, Int.tmod_lt_of_pos _ h0⟩, hr.2⟩


theorem site_ok (s : List Int) (p x : Int) (hs : s.length ≤ 1048576) (hp : 0 ≤ p) : ∃ r, spec_l9Site.f s p x = some r ∧ 0 ≤ r.2.2.1 := by
  unfold spec_l9Site.f
  exact bind_ok (below_ok s p x _ hs hp (by omega) (by omega)) fun r hr => bind_ok (below_ok s _ _ _ hs hr.2 (by omega) (by omega)) fun r hr => ⟨_, rfl, hr.2⟩


theorem pattern_ok (s : List Int) (p x : Int) (hs : s.length ≤ 1048576) (hp : 0 ≤ p) : ∃ r, spec_l9Pattern.f s p x = some r ∧ 0 ≤ r.2.2.1 := by
  unfold spec_l9Pattern.f
  exact bind_ok (below_ok s p x _ hs hp (by omega) (by omega)) fun r hr => bind_ok (below_ok s _ _ _ hs hr.2 (by omega) (by omega)) fun r hr => ⟨_, rfl, hr.2⟩


theorem once_ok (s : List Int) (p x n : Int) (hs : s.length ≤ 1048576) (hp : 0 ≤ p) (h0 : 0 < n) (h1 : n ≤ 256) : ∃ r, spec_l1Once.f s p x n = some r ∧ 0 ≤ r.2.1 := by
  unfold spec_l1Once.f
  exact bind_ok (below_ok s p x n hs hp h0 h1) fun r hr => ⟨_, rfl, hr.2⟩


theorem int_ok (s : List Int) (p x : Int) (l : List Int) (hs : s.length ≤ 1048576) (hp : 0 ≤ p) (h0 : 0 < l.length) (h1 : l.length ≤ 256) : ∃ r, spec_l1Int.f s p x l = some r ∧ 0 ≤ r.2.1 := by
  unfold spec_l1Int.f
  refine bind_ok (below_ok s p x _ hs hp (by omega) (by omega)) fun r hr => ?_
  rw [if_pos hr.1.1, if_pos hr.1.2]
  exact ⟨_, rfl, hr.2⟩


theorem raw_ok (s : List Int) (p x : Int) (hs : s.length ≤ 1048576) (hp : 0 ≤ p) : ∃ r, spec_l9Raw.f s p x = some r ∧ 0 ≤ r.2.1 := by
  unfold spec_l9Raw.f
  exact bind_ok (int_ok s p x _ hs hp (by decide) (by decide)) fun r hr => ⟨_, rfl, hr⟩


theorem request_ok (s : List Int) (p x : Int) (hs : s.length ≤ 1048576) (hp : 0 ≤ p) : ∃ r, spec_l13Request.f s p x = some r ∧ 0 ≤ r.2.2.2.1 := by
  unfold spec_l13Request.f
  exact bind_ok (site_ok s p x hs hp) fun r hr => bind_ok (below_ok s _ _ _ hs hr (by omega) (by omega)) fun r2 h2 => ⟨_, rfl, h2.2⟩


theorem impl_req (o s t : Int) : impl_IsRequest.f o s t = some (isReq o s t) := by
  unfold impl_IsRequest.f isReq; simp only [impl_sit, impl_in, Option.bind_some]
  cases isSit o s <;> simp


theorem l13_ok (s : List Int) (p x : Int) (hs : s.length ≤ 1048576) (hp : 0 ≤ p) : ∃ r, spec_l13Draw.f s p x = some r ∧ 0 ≤ r.2.2.2.2.2.2.2.2.1 := by
  unfold spec_l13Draw.f
  exact bind_ok (below_ok s p x _ hs hp (by omega) (by omega)) fun r1 h1 => bind_ok (below_ok s _ _ _ hs h1.2 (by omega) (by omega)) fun r2 h2 => bind_ok (pattern_ok s _ _ hs h2.2) fun r3 h3 =>
    bind_ok (below_ok s _ _ _ hs h3 (by omega) (by omega)) fun r4 h4 => bind_ok (below_ok s _ _ _ hs h4.2 (by omega) (by omega)) fun r5 h5 => if_ok (fun _ => bind_ok (site_ok s _ _ hs h5.2) fun r6 h6 => ⟨_, rfl, h6⟩) (fun _ => ⟨_, rfl, h5.2⟩)


theorem l13_l0 (s : List Int) (hs : s.length ≤ 1048576) : ∀ (d k : Nat) (xs : List S37) (p x : Int), d < k → xs.length + d ≤ 1000 → 0 ≤ p → ∃ r, spec_l13List.l0 k xs (d : Int) s p x = some r ∧ r.1.length ≤ xs.length + d ∧ 0 ≤ r.2.1 := by
  intro d
  induction d with
  | zero =>
    intro k xs p x hk hl hp
    obtain ⟨k, rfl⟩ : ∃ m, k = m + 1 := ⟨k - 1, by omega⟩
    simp only [spec_l13List.l0]
    rw [if_neg (by omega)]
    exact ⟨_, rfl, Nat.le_refl _, hp⟩
  | succ d ih =>
    intro k xs p x hk hl hp
    obtain ⟨k, rfl⟩ : ∃ m, k = m + 1 := ⟨k - 1, by omega⟩
    simp only [spec_l13List.l0]
    rw [if_pos (by omega)]
    refine bind_ok (l13_ok s p x hs hp) fun r hr => ?_
    rw [if_pos (by omega), wr (by omega) (by omega), show (((d + 1 : Nat) : Int) - 1) = (d : Int) by omega]
    obtain ⟨r2, e, h1, h2⟩ := ih k (xs ++ [⟨r.1, r.2.1, ⟨r.2.2.1, r.2.2.2.1⟩, r.2.2.2.2.1, r.2.2.2.2.2.1, ⟨r.2.2.2.2.2.2.1, r.2.2.2.2.2.2.2.1⟩⟩]) r.2.2.2.2.2.2.2.2.1 r.2.2.2.2.2.2.2.2.2 (by omega) (by simp; omega) hr
    simp only [List.length_append, List.length_singleton] at h1
    exact ⟨r2, e, by omega, h2⟩
theorem l13list_ok (k : Nat) (s : List Int) (p x : Int) (hs : s.length ≤ 1048576) (hk : 20 < k) (hp : 0 ≤ p) : ∃ r, spec_l13List.f k s p x = some r ∧ r.1.length ≤ 20 ∧ 0 ≤ r.2.1 := by
  unfold spec_l13List.f
  refine bind_ok (below_ok s p x _ hs hp (by omega) (by omega)) fun r hr => ?_
  obtain ⟨r2, e, h1, h2⟩ := l13_l0 s hs r.1.toNat k [] r.2.1 r.2.2 (by omega) (by simp; omega) hr.2
  rw [show ((r.1.toNat : Nat) : Int) = r.1 by omega] at e
  exact ⟨r2, e, by simp at h1; omega, h2⟩


theorem any_ok (s : List Int) (p x : Int) (hs : s.length ≤ 1048576) (hp : 0 ≤ p) : ∃ r, spec_l9Any.f s p x = some r ∧ 0 ≤ r.2.2.1 := by
  unfold spec_l9Any.f
  refine bind_ok (pattern_ok s p x hs hp) fun r hr => bind_ok (below_ok s _ _ _ hs hr (by omega) (by omega)) fun r2 hr2 => if_ok (fun _ => ?_) (fun _ => if_ok (fun _ => ?_) (fun _ => ?_))
  · exact bind_ok (raw_ok s _ _ hs hr2.2) fun r3 hr3 => ⟨_, rfl, hr3⟩
  · exact bind_ok (raw_ok s _ _ hs hr2.2) fun r3 hr3 => ⟨_, rfl, hr3⟩
  · exact ⟨_, rfl, hr2.2⟩


theorem l13any_ok (s : List Int) (p x : Int) (hs : s.length ≤ 1048576) (hp : 0 ≤ p) : ∃ r, spec_l13Any.f s p x = some r ∧ 0 ≤ r.2.2.2.2.2.2.2.2.1 := by
  unfold spec_l13Any.f
  refine bind_ok (l13_ok s p x hs hp) fun r1 h1 => bind_ok (below_ok s _ _ _ hs h1 (by omega) (by omega)) fun r2 h2 => ?_
  repeat' first
    | (refine if_ok (fun _ => ?_) (fun _ => ?_))
    | (refine bind_ok (raw_ok s _ _ hs h2.2) fun r3 h3 => ?_)
    | (refine bind_ok (int_ok s _ _ _ hs h2.2 (by decide) (by decide)) fun r3 h3 => ?_)
    | (refine bind_ok (any_ok s _ _ hs h2.2) fun r3 h3 => ?_)
    | (refine bind_ok (site_ok s _ _ hs h2.2) fun r3 h3 => ?_)
    | (refine ⟨_, rfl, ?_⟩; first | exact h2.2 | assumption)


theorem drawDecide_ok (k : Nat) (s : List Int) (hs : s.length ≤ 1048576) (hk : s.length + 200 < k) : ∃ r, spec_DrawDecideRule.f k s = some r ∧ r.1.length ≤ 20 := by
  obtain ⟨k, rfl⟩ : ∃ m, k = m + 1 := ⟨k - 1, by omega⟩
  unfold spec_DrawDecideRule.f
  refine bind_ok (l1New_ok (k + 1) s hs (by omega)) fun r hr => ?_
  obtain ⟨e1, e2⟩ := hr
  rw [e1]
  refine bind_ok (l13list_ok (k + 1) s _ _ hs (by omega) (by omega)) fun r2 h2 => if_ok (fun hc => ?_) (fun _ => ?_)
  · refine bind_ok (once_ok s _ _ _ hs h2.2 (by omega) (by omega)) fun r3 h3 => ?_
    simp only [spec_DrawDecideRule.j0]
    refine if_ok (fun _ => ?_) (fun _ => bind_ok (request_ok s _ _ hs h3) fun r4 h4 => ⟨_, rfl, h2.1⟩)
    refine bind_ok (l13any_ok s _ _ hs h3) fun r4 h4 => ?_
    rw [if_pos (by omega)]
    exact bind_ok (request_ok s _ _ hs h4) fun r5 h5 => ⟨_, rfl, by simp only [List.length_set]; exact h2.1⟩
  · simp only [spec_DrawDecideRule.j0]
    rw [if_neg (by decide)]
    exact bind_ok (request_ok s _ _ hs h2.2) fun r4 h4 => ⟨_, rfl, h2.1⟩


theorem impl_befo (n : Nat) (a0 a1 a2 a3 a4 a5 a6 a7 b0 b1 b2 b3 b4 b5 b6 b7 : Int) : impl_IsBefore.f (n + 6) a0 a1 a2 a3 a4 a5 a6 a7 b0 b1 b2 b3 b4 b5 b6 b7 = some (befo a0 a1 a5 a6 a7 b0 b1 b5 b6 b7) := by
  unfold impl_IsBefore.f impl_compareRules.f befo; simp only [cmp_eq, or5, Option.bind_some]
  rcases Int.lt_trichotomy a1 b1 with h | h | h
  · simp [show ¬ b1 < a1 by omega, show b1 > a1 by omega, show ¬ a1 = b1 by omega]
  · subst h
    rcases Int.lt_trichotomy a5 b5 with h | h | h
    · simp [h, show ¬ a5 = b5 by omega]
    · subst h
      rcases Int.lt_trichotomy a0 b0 with h | h | h
      · simp [h, show ¬ a0 = b0 by omega]
      · subst h
        rcases Int.lt_trichotomy a6 b6 with h | h | h
        · simp [h, show ¬ a6 = b6 by omega]
        · subst h
          rcases Int.lt_trichotomy a7 b7 with h | h | h
          · simp [h]
          · subst h; simp
          · simp [h, show ¬ a7 < b7 by omega]
        · simp [h, show ¬ a6 < b6 by omega, show ¬ a6 = b6 by omega]
      · simp [h, show ¬ a0 < b0 by omega, show ¬ a0 = b0 by omega]
    · simp [h, show ¬ a5 < b5 by omega, show ¬ a5 = b5 by omega]
  · simp [h, show ¬ a1 = b1 by omega]


theorem impl_mtch (a b c d : Int) : impl_MatchSite.f a b c d = some (mtch a b c d) := by
  unfold impl_MatchSite.f mtch; simp only [impl_pat, impl_sit, Option.bind_some]
  cases isPat a b <;> cases isSit c d <;> simp
  by_cases h1 : a = 0 <;> by_cases h2 : a = c <;> by_cases h3 : b = -1 <;> simp [h1, h2, h3] <;> simp [beq_dec]


theorem impl_appl (n : Nat) (e p po ps s a o b qo qs qt : Int) : impl_Applies.f (n + 2) e p po ps s a o b qo qs qt = some (appl e p po ps s a o b qo qs qt) := by
  unfold impl_Applies.f appl; simp only [impl_rul, impl_req, impl_mtch, Option.bind_some]
  cases isRul e p po ps s a o b <;> cases isReq qo qs qt <;> cases mtch po ps qo qs <;> by_cases h : s = 0 <;> simp [h, beq_dec]


theorem impl_DecideRule_eq (k : Nat) (xs : List S37) (qo qs qt : Int) (hn : xs.length ≤ 1048576) (hk : xs.length + 6 < k) : impl_DecideRule.f k xs qo qs qt = some (decM xs qo qs qt) := by
  have L := loop_run 6 (fun k (b : Int) i => impl_DecideRule.l0 k xs b xs (xs.length : Int) i qo qs qt) xs.length (fun b i => dFrom xs qo qs qt (xs.drop i) i b) (fun b i => -1 ≤ b ∧ b < i) (by omega)
    (fun k b i hm hi hI ih => by
      have hd := drop_at xs i hi
      have hr := rdRule_i xs i hi
      generalize xs[i] = r at hd hr
      obtain ⟨h0, h1⟩ := hI
      simp only [impl_DecideRule.l0]
      obtain ⟨k, rfl⟩ : ∃ z, k = z + 6 := ⟨k - 6, by omega⟩
      rw [if_pos (by omega), if_pos (by omega), if_pos (by omega), hr, hd]
      simp only [dFrom, impl_appl, impl_befo, Option.bind_some, impl_appl (k + 4)]
      have ih1 := ih i (by omega)
      have ih2 := ih b (by omega)
      try dsimp only at ih1 ih2
      unfold appS befS
      cases appl r.f0 r.f1 r.f2.f0 r.f2.f1 r.f3 r.f4 r.f5.f0 r.f5.f1 qo qs qt
      · simp only [Bool.false_and, Bool.false_eq_true, if_false]; exact ih2
      · by_cases hb : b < 0
        · simp only [hb, if_true, decide_true, Bool.true_or, Bool.and_true]; exact ih1
        · rw [if_pos rfl, if_neg hb, if_pos (by omega), if_pos (by omega)]
          have hb' : decide (b < 0) = false := decide_eq_false hb
          simp only [hb', Bool.false_or, Bool.true_and]
          split
          · exact ih1
          · exact ih2)
    (fun k b hm hI => by
      simp only [impl_DecideRule.l0]
      rw [if_neg nlt, List.drop_of_length_le (Nat.le_refl _)]
      rfl) k hk (-1) (by omega)
  try dsimp only at L
  unfold impl_DecideRule.f
  rw [L]
  rfl


theorem impl_AppliesTo_eq (k : Nat) (xs : List S37) (qo qs qt : Int) (hn : xs.length ≤ 1048576) (hk : xs.length + 2 < k) : impl_AppliesTo.f k xs qo qs qt = some (aFrom qo qs qt xs 0) := by
  have L := loop_run 2 (fun k (s : List Int) i => impl_AppliesTo.l0 k s xs (xs.length : Int) i qo qs qt) xs.length (fun s i => s ++ aFrom qo qs qt (xs.drop i) i) (fun s i => s.length ≤ i) (by omega)
    (fun k s i hm hi hI ih => by
      have hd := drop_at xs i hi
      have hr := rdRule_i xs i hi
      generalize xs[i] = r at hd hr
      simp only [impl_AppliesTo.l0]
      obtain ⟨k, rfl⟩ : ∃ z, k = z + 2 := ⟨k - 2, by omega⟩
      rw [if_pos (by omega), if_pos (by omega), if_pos (by omega), hr, hd]
      simp only [aFrom, impl_appl k, Option.bind_some]
      have ih1 := ih (s ++ [(i : Int)]) (by simp; omega)
      have ih2 := ih s (by omega)
      try dsimp only at ih1 ih2
      unfold appS
      cases appl r.f0 r.f1 r.f2.f0 r.f2.f1 r.f3 r.f4 r.f5.f0 r.f5.f1 qo qs qt
      · simp only [Bool.false_eq_true, if_false, List.nil_append]; exact ih2
      · rw [if_pos rfl, if_pos (by omega), ih1, if_pos rfl, List.append_assoc])
    (fun k s hm hI => by
      simp only [impl_AppliesTo.l0]
      rw [if_neg nlt, List.drop_of_length_le (Nat.le_refl _)]
      simp [aFrom]) k hk [] (by simp)
  try dsimp only at L
  unfold impl_AppliesTo.f
  rw [L]
  simp


theorem impl_ActionFor_eq (k : Nat) (xs : List S37) (qo qs qt : Int) (hn : xs.length ≤ 1048576) (hk : xs.length + 6 < k) : impl_ActionFor.f k xs qo qs qt = some (if decM xs qo qs qt < 0 then 1 else (rd_T37 xs (decM xs qo qs qt)).f4) := by
  unfold impl_ActionFor.f
  rw [impl_DecideRule_eq k xs qo qs qt hn hk]
  have h := decM_range xs qo qs qt
  simp only [Option.bind_some]
  by_cases hb : decM xs qo qs qt < 0
  · rw [if_pos hb, if_pos hb]
  · rw [if_neg hb, if_neg hb, if_pos (by omega), if_pos (by omega)]


theorem impl_WhoDecides_eq (k : Nat) (xs : List S37) (qo qs qt : Int) (hn : xs.length ≤ 1048576) (hk : xs.length + 6 < k) : impl_WhoDecides.f k xs qo qs qt = some (if decM xs qo qs qt < 0 then 0 else (rd_T37 xs (decM xs qo qs qt)).f0) := by
  unfold impl_WhoDecides.f
  rw [impl_DecideRule_eq k xs qo qs qt hn hk]
  have h := decM_range xs qo qs qt
  simp only [Option.bind_some]
  by_cases hb : decM xs qo qs qt < 0
  · rw [if_pos hb, if_pos hb]
  · rw [if_neg hb, if_neg hb, if_pos (by omega), if_pos (by omega)]


theorem rdIntC (xs : List Int) (i : Nat) (h : i < xs.length) : rd xs (i : Int) = xs[i] := rd_at _ xs i h
theorem contains_eq (k : Nat) (xs : List Int) (o : Int) (hn : xs.length ≤ 9223372036854775806) (hk : xs.length < k) : laws_contains.f k xs o = some (decide (o ∈ xs)) := by
  have L := loop_run 0 (fun k (_ : Unit) i => laws_contains.l0 k xs o i) xs.length (fun _ i => decide (o ∈ xs.drop i)) (fun _ _ => True) hn
    (fun k s i hm hi hI ih => by
      simp only [laws_contains.l0]
      rw [if_pos (by omega), if_pos (by omega), rdIntC _ _ hi, drop_at _ _ hi, ih () trivial]
      by_cases h : xs[i] = o
      · rw [if_pos h]; simp [h]
      · have e : (o ∈ xs[i] :: xs.drop (i + 1)) ↔ o ∈ xs.drop (i + 1) := by
          rw [List.mem_cons]; exact or_iff_right (fun e => h e.symm)
        rw [if_neg h, decide_eq_decide.2 e])
    (fun k s hm hI => by
      simp only [laws_contains.l0]
      rw [if_neg nlt, List.drop_of_length_le (Nat.le_refl _)]
      rfl) k hk () trivial
  try dsimp only at L
  unfold laws_contains.f
  rw [L, List.drop_zero]


theorem befo_iff (ae ap aa ao ab be bp ba bo bb : Int) : befo ae ap aa ao ab be bp ba bo bb = true ↔ (bp < ap ∨ (ap = bp ∧ (aa < ba ∨ (aa = ba ∧ (ae < be ∨ (ae = be ∧ (ao < bo ∨ (ao = bo ∧ ab < bb)))))))) := by
  unfold befo
  by_cases h1 : ap = bp
  · rw [if_pos h1]
    by_cases h2 : aa = ba
    · rw [if_pos h2]
      by_cases h3 : ae = be
      · rw [if_pos h3]
        by_cases h4 : ao = bo
        · rw [if_pos h4, decide_eq_true_eq]; omega
        · rw [if_neg h4, decide_eq_true_eq]; omega
      · rw [if_neg h3, decide_eq_true_eq]; omega
    · rw [if_neg h2, decide_eq_true_eq]; omega
  · rw [if_neg h1, decide_eq_true_eq]; omega
theorem befo_irr (ae ap aa ao ab : Int) : befo ae ap aa ao ab ae ap aa ao ab = false := by
  rw [Bool.eq_false_iff, Ne, befo_iff]; omega
theorem befo_asym {ae ap aa ao ab be bp ba bo bb : Int} (h : befo ae ap aa ao ab be bp ba bo bb = true) : befo be bp ba bo bb ae ap aa ao ab = false := by
  rw [befo_iff] at h
  rw [Bool.eq_false_iff, Ne, befo_iff]; omega
theorem befo_tri {ae ap aa ao ab be bp ba bo bb : Int} (h : befo ae ap aa ao ab be bp ba bo bb = false) (h' : befo be bp ba bo bb ae ap aa ao ab = false) : ap = bp ∧ aa = ba ∧ ae = be ∧ ao = bo ∧ ab = bb := by
  rw [Bool.eq_false_iff, Ne, befo_iff] at h h'; omega
theorem befo_trans {ae ap aa ao ab be bp ba bo bb ce cp ca co cb : Int} (h : befo ae ap aa ao ab be bp ba bo bb = true) (h' : befo be bp ba bo bb ce cp ca co cb = true) : befo ae ap aa ao ab ce cp ca co cb = true := by
  rw [befo_iff] at h h' ⊢; omega

theorem befS_irr (a : S37) : befS a a = false := befo_irr _ _ _ _ _
theorem befS_trans {a b c : S37} (h : befS a b = true) (h' : befS b c = true) : befS a c = true := befo_trans h h'
theorem dFrom_best (xs : List S37) (qo qs qt : Int) : ∀ (d i : Nat) (b : Int), i + d = xs.length → -1 ≤ b → b < i → (∀ j (hj : j < xs.length), j < i → appS xs[j] qo qs qt = true → 0 ≤ b ∧ befS xs[j] (rd_T37 xs b) = false) →
    ∀ j (hj : j < xs.length), appS xs[j] qo qs qt = true → 0 ≤ dFrom xs qo qs qt (xs.drop i) i b ∧ befS xs[j] (rd_T37 xs (dFrom xs qo qs qt (xs.drop i) i b)) = false := by
  intro d
  induction d with
  | zero =>
    intro i b hi h0 h1 hb j hj ha
    rw [List.drop_of_length_le (by omega)]
    exact hb j hj (by omega) ha
  | succ d ih =>
    intro i b hi h0 h1 hb
    have hil : i < xs.length := by omega
    rw [drop_at xs i hil]
    simp only [dFrom]
    have hri := rdRule_i xs i hil
    refine ih (i + 1) _ (by omega) (by split <;> omega) (by split <;> omega) ?_
    intro j hj hji ha
    by_cases hc : (appS xs[i] qo qs qt && (decide (b < 0) || befS xs[i] (rd_T37 xs b))) = true
    · rw [if_pos hc, hri]
      refine ⟨by omega, ?_⟩
      by_cases e : j = i
      · subst e; exact befS_irr _
      · obtain ⟨p1, p2⟩ := hb j hj (by omega) ha
        rw [Bool.and_eq_true, Bool.or_eq_true, decide_eq_true_eq] at hc
        have hbe := hc.2.resolve_left (by omega)
        rw [Bool.eq_false_iff]
        intro hx
        rw [befS_trans hx hbe] at p2
        exact absurd p2 (by decide)
    · rw [if_neg hc]
      by_cases e : j = i
      · subst e
        rw [ha, Bool.true_and, Bool.or_eq_true, decide_eq_true_eq] at hc
        exact ⟨by omega, by rw [Bool.eq_false_iff]; exact fun hx => hc (Or.inr hx)⟩
      · exact hb j hj (by omega) ha
theorem decM_best (xs : List S37) (qo qs qt : Int) (j : Nat) (hj : j < xs.length) (ha : appS xs[j] qo qs qt = true) : 0 ≤ decM xs qo qs qt ∧ befS xs[j] (rd_T37 xs (decM xs qo qs qt)) = false := by
  have := dFrom_best xs qo qs qt xs.length 0 (-1) (by omega) (by omega) (by omega) (fun j hj h => absurd h (by omega)) j hj ha
  rw [List.drop_zero] at this
  exact this
theorem dFrom_ap (xs : List S37) (qo qs qt : Int) : ∀ (d i : Nat) (b : Int), i + d = xs.length → (0 ≤ b → appS (rd_T37 xs b) qo qs qt = true) → 0 ≤ dFrom xs qo qs qt (xs.drop i) i b →
    appS (rd_T37 xs (dFrom xs qo qs qt (xs.drop i) i b)) qo qs qt = true := by
  intro d
  induction d with
  | zero =>
    intro i b hi hb h0
    rw [List.drop_of_length_le (by omega)] at h0 ⊢
    exact hb h0
  | succ d ih =>
    intro i b hi hb h0
    have hil : i < xs.length := by omega
    rw [drop_at xs i hil] at h0 ⊢
    simp only [dFrom] at h0 ⊢
    refine ih (i + 1) _ (by omega) ?_ h0
    intro hp
    by_cases hc : (appS xs[i] qo qs qt && (decide (b < 0) || befS xs[i] (rd_T37 xs b))) = true
    · rw [if_pos hc, rdRule_i xs i hil]
      rw [Bool.and_eq_true] at hc
      exact hc.1
    · rw [if_neg hc] at hp ⊢
      exact hb hp
theorem decM_ap (xs : List S37) (qo qs qt : Int) (h : 0 ≤ decM xs qo qs qt) : appS (rd_T37 xs (decM xs qo qs qt)) qo qs qt = true := by
  have := dFrom_ap xs qo qs qt xs.length 0 (-1) (by omega) (fun h => absurd h (by decide)) (by rw [List.drop_zero]; exact h)
  rw [List.drop_zero] at this
  exact this

theorem mem_insRev {α : Type} (lt : α → α → Bool) (x y : α) : ∀ S : List α, y ∈ Stab.insRev lt x S ↔ y = x ∨ y ∈ S
  | [] => by simp [Stab.insRev]
  | s :: S => by
    show y ∈ (if lt x s = true then s :: Stab.insRev lt x S else x :: s :: S) ↔ _
    by_cases h : lt x s = true
    · rw [if_pos h, List.mem_cons, mem_insRev lt x y S, List.mem_cons]
      constructor
      · rintro (h | h | h)
        · exact Or.inr (Or.inl h)
        · exact Or.inl h
        · exact Or.inr (Or.inr h)
      · rintro (h | h | h)
        · exact Or.inr (Or.inl h)
        · exact Or.inl h
        · exact Or.inr (Or.inr h)
    · rw [if_neg h, List.mem_cons]
theorem mem_insR {α : Type} (lt : α → α → Bool) (x y : α) (S : List α) : y ∈ Stab.insR lt x S ↔ y = x ∨ y ∈ S := by
  unfold Stab.insR
  rw [List.mem_reverse, mem_insRev, List.mem_reverse]
theorem mem_insFold {α : Type} (lt : α → α → Bool) (y : α) : ∀ L S : List α, y ∈ L.foldl (fun S x => Stab.insR lt x S) S ↔ y ∈ S ∨ y ∈ L
  | [], S => by simp
  | x :: L, S => by
    rw [List.foldl_cons, mem_insFold lt y L, mem_insR, List.mem_cons]
    constructor
    · rintro ((h | h) | h)
      · exact Or.inr (Or.inl h)
      · exact Or.inl h
      · exact Or.inr (Or.inr h)
    · rintro (h | h | h)
      · exact Or.inl (Or.inr h)
      · exact Or.inl (Or.inl h)
      · exact Or.inr h
theorem mem_sortR (xs : List S37) (r : S37) : r ∈ sortR xs ↔ r ∈ xs ∧ vR r = true := by
  unfold sortR Stab.isort
  rw [mem_insFold, List.mem_filter]
  simp
theorem app_valid (r : S37) (qo qs qt : Int) (h : appS r qo qs qt = true) : vR r = true := by
  unfold appS appl at h
  unfold vR
  rw [Bool.and_eq_true] at h
  exact h.1
theorem sortR_asc (xs : List S37) (i j : Nat) (hj : j < (sortR xs).length) (hij : i < j) : befS (sortR xs)[j] ((sortR xs)[i]'(by omega)) = false := by
  have h := Stab.isort_asc (ltOf cfR) cfR_swo (xs.filter vR)
  have h2 := List.pairwise_iff_getElem.1 h i j (by have := hj; unfold sortR at this; omega) (by have := hj; unfold sortR at this; omega) hij
  unfold befS
  rw [befo_cf]
  exact h2
theorem aFrom_has (qo qs qt : Int) : ∀ (rs : List S37) (i n : Nat) (hn : n < rs.length), appS rs[n] qo qs qt = true → ((i + n : Nat) : Int) ∈ aFrom qo qs qt rs i
  | [], i, n, hn, _ => absurd hn (by simp)
  | r :: rs, i, 0, hn, h => by
    have h' : appS r qo qs qt = true := h
    simp only [aFrom, h', if_true]
    simp
  | r :: rs, i, n + 1, hn, h => by
    simp only [aFrom, List.mem_append]
    have := aFrom_has qo qs qt rs (i + 1) n (by simpa using hn) h
    rw [show i + 1 + n = i + (n + 1) by omega] at this
    exact Or.inr this
theorem aFrom_is (qo qs qt : Int) : ∀ (rs : List S37) (i : Nat) (x : Int), x ∈ aFrom qo qs qt rs i → ∃ (n : Nat) (hn : n < rs.length), x = ((i + n : Nat) : Int) ∧ appS rs[n] qo qs qt = true
  | [], i, x, h => by simp [aFrom] at h
  | r :: rs, i, x, h => by
    simp only [aFrom, List.mem_append] at h
    rcases h with h | h
    · split at h
      · next hp =>
        rw [List.mem_singleton] at h
        exact ⟨0, by simp, by rw [h]; simp, hp⟩
      · simp at h
    · obtain ⟨n, hn, hx, hp⟩ := aFrom_is qo qs qt rs (i + 1) x h
      exact ⟨n + 1, by simpa using hn, by rw [hx]; congr 1; omega, hp⟩
theorem rd_dec (xs : List S37) (D : Int) (h0 : 0 ≤ D) (h1 : D < xs.length) : ∃ (n : Nat) (hn : n < xs.length), D = (n : Int) ∧ rd_T37 xs D = xs[n] := by
  refine ⟨D.toNat, by omega, by omega, ?_⟩
  have := rdRule_i xs D.toNat (by omega)
  rw [show ((D.toNat : Nat) : Int) = D by omega] at this
  exact this
theorem decM_none (xs : List S37) (qo qs qt : Int) (h : ∀ r ∈ xs, appS r qo qs qt = false) : decM xs qo qs qt < 0 := by
  rcases Int.lt_or_le (decM xs qo qs qt) 0 with h0 | h0
  · exact h0
  · have h1 := decM_ap xs qo qs qt h0
    obtain ⟨n, hn, _, e⟩ := rd_dec xs _ h0 (decM_range xs qo qs qt).2
    rw [e, h _ (List.getElem_mem hn)] at h1
    exact absurd h1 (by decide)
theorem decM_neg (xs : List S37) (qo qs qt : Int) (h : decM xs qo qs qt < 0) (r : S37) (hr : r ∈ xs) : appS r qo qs qt = false := by
  obtain ⟨n, hn, e⟩ := List.getElem_of_mem hr
  rw [Bool.eq_false_iff]
  intro hp
  have := (decM_best xs qo qs qt n hn (by rw [e]; exact hp)).1
  omega
theorem sort_dec_neg (xs : List S37) (qo qs qt : Int) : decM (sortR xs) qo qs qt < 0 ↔ decM xs qo qs qt < 0 := by
  constructor
  · intro h
    refine decM_none xs qo qs qt fun r hr => ?_
    rw [Bool.eq_false_iff]
    intro hp
    have := decM_neg (sortR xs) qo qs qt h r ((mem_sortR xs r).2 ⟨hr, app_valid r qo qs qt hp⟩)
    rw [hp] at this
    exact absurd this (by decide)
  · intro h
    exact decM_none _ qo qs qt fun r hr => decM_neg xs qo qs qt h r ((mem_sortR xs r).1 hr).1
/-- what decides among the sorted rules counts as what decides among them all -/
theorem sort_dec_same (xs : List S37) (qo qs qt : Int) (h : 0 ≤ decM xs qo qs qt) (h' : 0 ≤ decM (sortR xs) qo qs qt) :
    befS (rd_T37 xs (decM xs qo qs qt)) (rd_T37 (sortR xs) (decM (sortR xs) qo qs qt)) = false ∧ befS (rd_T37 (sortR xs) (decM (sortR xs) qo qs qt)) (rd_T37 xs (decM xs qo qs qt)) = false := by
  have ha := decM_ap xs qo qs qt h
  have hb := decM_ap (sortR xs) qo qs qt h'
  obtain ⟨n, hn, _, e⟩ := rd_dec xs _ h (decM_range xs qo qs qt).2
  obtain ⟨m, hm, _, f⟩ := rd_dec (sortR xs) _ h' (decM_range (sortR xs) qo qs qt).2
  have i1 : xs[n] ∈ sortR xs := (mem_sortR xs _).2 ⟨List.getElem_mem hn, app_valid _ qo qs qt (by rw [← e]; exact ha)⟩
  have i2 : (sortR xs)[m] ∈ xs := ((mem_sortR xs _).1 (List.getElem_mem hm)).1
  obtain ⟨p, hp, ep⟩ := List.getElem_of_mem i1
  obtain ⟨q, hq, eq⟩ := List.getElem_of_mem i2
  have j1 := (decM_best (sortR xs) qo qs qt p hp (by rw [ep, ← e]; exact ha)).2
  have j2 := (decM_best xs qo qs qt q hq (by rw [eq, ← f]; exact hb)).2
  rw [ep, ← e] at j1
  rw [eq, ← f] at j2
  exact ⟨j1, j2⟩
theorem same_of (a b : S37) (h : befS a b = false) (h' : befS b a = false) : laws_sameRule.f b.f0 b.f1 b.f2.f0 b.f2.f1 b.f3 b.f4 b.f5.f0 b.f5.f1 a.f0 a.f1 a.f2.f0 a.f2.f1 a.f3 a.f4 a.f5.f0 a.f5.f1 = some true := by
  obtain ⟨e1, e2, e3, e4, e5⟩ := befo_tri h h'
  unfold laws_sameRule.f
  rw [if_pos e1.symm, if_pos e2.symm, if_pos e3.symm, e4, e5]
  simp

theorem fdec_end (xs : List S37) (hx : xs.length ≤ 20) (qo qs qt : Int) (k : Nat) (hk : 100 < k) (i : Int) (hi : (sortR xs).length ≤ i) : laws_FnDecided.l1 k xs (decM xs qo qs qt) (sortR xs) i qo qs qt = some true := by
  have hl := sortR_len xs
  obtain ⟨k, rfl⟩ : ∃ m, k = m + 1 := ⟨k - 1, by omega⟩
  have hn := sort_dec_neg xs qo qs qt
  have hr := decM_range xs qo qs qt
  have hs := decM_range (sortR xs) qo qs qt
  have hsame := sort_dec_same xs qo qs qt
  simp only [laws_FnDecided.l1]
  rw [if_neg (by omega), impl_DecideRule_eq k (sortR xs) _ _ _ (by omega) (by omega), Option.bind_some]
  by_cases hd : decM xs qo qs qt < 0
  · have hd' := hn.2 hd
    rw [if_pos (by rw [decide_eq_true hd, decide_eq_true hd']; rfl), if_pos hd]
  · have hd' : ¬ decM (sortR xs) qo qs qt < 0 := fun h => hd (hn.1 h)
    rw [if_pos (by rw [decide_eq_false hd, decide_eq_false hd']; rfl), if_neg hd, if_pos (by omega), if_pos (by omega), if_pos (by omega), if_pos (by omega)]
    obtain ⟨s1, s2⟩ := hsame (by omega) (by omega)
    rw [same_of _ _ s1 s2]
    rfl
theorem fdec_l1 (xs : List S37) (hx : xs.length ≤ 20) (qo qs qt : Int) : ∀ (d k i : Nat), (sortR xs).length ≤ i + d → 1 ≤ i → d + 100 < k → laws_FnDecided.l1 k xs (decM xs qo qs qt) (sortR xs) (i : Int) qo qs qt = some true := by
  have hl := sortR_len xs
  intro d
  induction d with
  | zero => intro k i hi h1 hk; exact fdec_end xs hx qo qs qt k (by omega) _ (by omega)
  | succ d ih =>
    intro k i hi h1 hk
    by_cases hi2 : i < (sortR xs).length
    · obtain ⟨k, rfl⟩ : ∃ m, k = m + 1 := ⟨k - 1, by omega⟩
      have hw : wrap64 ((i : Int) - 1) = ((i - 1 : Nat) : Int) := by rw [wr (by omega) (by omega)]; omega
      have r1 := rdRule_i (sortR xs) i hi2
      have r2 := rdRule_i (sortR xs) (i - 1) (by omega)
      have ha := sortR_asc xs (i - 1) i hi2 (by omega)
      have ih' := ih k (i + 1) (by omega) (by omega) (by omega)
      simp only [laws_FnDecided.l1, hw]
      obtain ⟨k, rfl⟩ : ∃ m, k = m + 6 := ⟨k - 6, by omega⟩
      rw [if_pos (by omega), if_pos (by omega), if_pos (by omega), if_pos (by omega)]
      simp only [r1, r2, impl_befo, Option.bind_some]
      unfold befS at ha
      rw [ha, if_neg (by decide), wr (by omega) (by omega), show (i : Int) + 1 = ((i + 1 : Nat) : Int) by omega]
      exact ih'
    · exact fdec_end xs hx qo qs qt k (by omega) _ (by omega)
theorem fdec_j2 (xs : List S37) (hx : xs.length ≤ 20) (qo qs qt : Int) (k : Nat) (hk : 200 < k) : laws_FnDecided.j2 k xs (decM xs qo qs qt) false qo qs qt = some true := by
  have hl := sortR_len xs
  obtain ⟨k, rfl⟩ : ∃ m, k = m + 1 := ⟨k - 1, by omega⟩
  simp only [laws_FnDecided.j2]
  rw [if_neg (by decide), impl_SortRules_eq k xs (by omega) (by omega), Option.bind_some]
  exact fdec_l1 xs hx qo qs qt (sortR xs).length k 1 (by omega) (by omega) (by omega)
theorem fdec_l0 (xs : List S37) (hx : xs.length ≤ 20) (qo qs qt : Int) : ∀ (d k i : Nat), i + d = (aFrom qo qs qt xs 0).length → d + 300 < k → laws_FnDecided.l0 k xs (decM xs qo qs qt) (aFrom qo qs qt xs 0) (i : Int) qo qs qt = some true := by
  have hr := decM_range xs qo qs qt
  have hlen := aFrom_len qo qs qt xs 0
  intro d
  induction d with
  | zero =>
    intro k i hi hk
    obtain ⟨k, rfl⟩ : ∃ m, k = m + 1 := ⟨k - 1, by omega⟩
    simp only [laws_FnDecided.l0]
    rw [if_neg (by omega)]
    by_cases hd : decM xs qo qs qt < 0
    · rw [if_neg (by omega)]
      exact fdec_j2 xs hx qo qs qt k (by omega)
    · rw [if_pos (by omega), impl_ActionFor_eq k xs _ _ _ (by omega) (by omega), Option.bind_some, if_pos (by omega), if_pos (by omega), if_neg hd, if_pos rfl, impl_WhoDecides_eq k xs _ _ _ (by omega) (by omega), Option.bind_some, if_neg hd, bne_self_eq_false]
      exact fdec_j2 xs hx qo qs qt k (by omega)
  | succ d ih =>
    intro k i hi hk
    obtain ⟨k, rfl⟩ : ∃ m, k = m + 1 := ⟨k - 1, by omega⟩
    have hil : i < (aFrom qo qs qt xs 0).length := by omega
    obtain ⟨n, hn, en, hp⟩ := aFrom_is qo qs qt xs 0 (aFrom qo qs qt xs 0)[i] (List.getElem_mem hil)
    rw [Nat.zero_add] at en
    have r0 : rd (aFrom qo qs qt xs 0) (i : Int) = (n : Int) := by rw [show rd (aFrom qo qs qt xs 0) (i : Int) = (aFrom qo qs qt xs 0)[i] from rd_at _ _ i hil, en]
    have r1 := rdRule_i xs n hn
    obtain ⟨b0, b1⟩ := decM_best xs qo qs qt n hn hp
    have ih' := ih k (i + 1) (by omega) (by omega)
    simp only [laws_FnDecided.l0, r0]
    obtain ⟨k, rfl⟩ : ∃ m, k = m + 6 := ⟨k - 6, by omega⟩
    rw [if_pos (by omega), if_pos (by omega), if_pos (by omega), if_pos (by omega), if_pos (by omega), if_pos (by omega)]
    simp only [r1, impl_befo, Option.bind_some]
    unfold befS at b1
    rw [b1, if_neg (by decide), wr (by omega) (by omega), show (i : Int) + 1 = ((i + 1 : Nat) : Int) by omega]
    exact ih'
theorem fdec_empty (xs : List S37) (qo qs qt : Int) : decide (decM xs qo qs qt < 0) = (((aFrom qo qs qt xs 0).length : Int) == 0) := by
  by_cases hd : decM xs qo qs qt < 0
  · rw [decide_eq_true hd]
    have : aFrom qo qs qt xs 0 = [] := by
      cases hA : aFrom qo qs qt xs 0 with
      | nil => rfl
      | cons y ys =>
        obtain ⟨n, hn, _, hp⟩ := aFrom_is qo qs qt xs 0 y (by rw [hA]; exact List.mem_cons_self)
        rw [decM_neg xs qo qs qt hd _ (List.getElem_mem hn)] at hp
        exact absurd hp (by decide)
    rw [this]; rfl
  · rw [decide_eq_false hd]
    have hr := decM_range xs qo qs qt
    have ha := decM_ap xs qo qs qt (by omega)
    obtain ⟨n, hn, _, e⟩ := rd_dec xs _ (by omega) hr.2
    rw [e] at ha
    have := List.length_pos_of_mem (aFrom_has qo qs qt xs 0 n hn ha)
    symm
    rw [beq_eq_false_iff_ne]
    omega
theorem FnDecided : laws_FnDecided.Pure := by
  intro l0 _ _ _
  obtain ⟨K, hK⟩ : ∃ K, K = l0.length + 5000 := ⟨_, rfl⟩
  refine ⟨K + 1, ?_⟩
  unfold laws_FnDecided.f
  simp only [laws_big.f, Option.bind_some]
  by_cases hb : (l0.length : Int) > 1048576
  · rw [if_pos (decide_eq_true hb)]
  · rw [if_neg (by rw [decide_eq_false hb]; decide)]
    obtain ⟨⟨xs, qo, qs, qt⟩, e1, hx⟩ := drawDecide_ok (K + 1) l0 (by omega) (by omega)
    rw [e1, Option.bind_some]
    dsimp only at hx ⊢
    have hlen := aFrom_len qo qs qt xs 0
    have hr := decM_range xs qo qs qt
    rw [impl_DecideRule_eq (K + 1) xs _ _ _ (by omega) (by omega), Option.bind_some, impl_AppliesTo_eq (K + 1) xs _ _ _ (by omega) (by omega), Option.bind_some, fdec_empty, if_neg (by simp)]
    have hj : laws_FnDecided.j0 (K + 1) xs (decM xs qo qs qt) (aFrom qo qs qt xs 0) false qo qs qt = some true := by
      simp only [laws_FnDecided.j0]
      rw [if_neg (by decide)]
      exact fdec_l0 xs hx qo qs qt (aFrom qo qs qt xs 0).length K 0 (by omega) (by omega)
    by_cases hd : decM xs qo qs qt < 0
    · rw [if_neg (by omega), if_pos hd, impl_ActionFor_eq (K + 1) xs _ _ _ (by omega) (by omega), Option.bind_some, if_pos hd, if_pos rfl, impl_WhoDecides_eq (K + 1) xs _ _ _ (by omega) (by omega), Option.bind_some, if_pos hd]
      exact hj
    · have hm : decM xs qo qs qt ∈ aFrom qo qs qt xs 0 := by
        have ha := decM_ap xs qo qs qt (by omega)
        obtain ⟨n, hn, en, e⟩ := rd_dec xs _ (by omega) hr.2
        rw [e] at ha
        have := aFrom_has qo qs qt xs 0 n hn ha
        rw [Nat.zero_add] at this
        rw [en]; exact this
      rw [if_pos (by omega), contains_eq (K + 1) _ _ (by omega) (by omega), Option.bind_some, if_pos (decide_eq_true hm), if_neg hd]
      exact hj

end Go.Proofs.Ytepndcpncndjdaa.Pure
