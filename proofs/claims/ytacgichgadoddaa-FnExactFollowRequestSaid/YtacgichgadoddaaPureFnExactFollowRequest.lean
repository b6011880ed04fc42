/- The printed function of the law FnExactFollowRequest answers true, for all arguments, under no condition but that each whole number is one of its kind and that each slice has a length that fits. -/
import Derived.Test.YtacgichgadoddaaQFx48
namespace Go.Proofs.Ytacgichgadoddaa.Pure
open Go.RowKit Go.Proofs.Ytacgichgadoddaa.QF Go.Proofs.YtacgichgadoddaaW.PrintWords Go.Proofs.YtacgichgadoddaaW.PrintLast
set_option linter.unusedVariables false
set_option linter.unusedSimpArgs false
theorem wr {i : Int} (h0 : -9223372036854775808 ≤ i) (h1 : i ≤ 9223372036854775807) : wrap64 i = i := by unfold wrap64; omega
theorem beq_dec (a b : Int) : (a == b) = decide (a = b) := by by_cases h : a = b <;> simp [h]
theorem and_if (p : Prop) [Decidable p] (c : Bool) : (if p then some c else some false) = some (decide p && c) := by
  by_cases h : p <;> simp [h]
theorem or_if (p : Prop) [Decidable p] (c : Bool) : (if p then some true else some c) = some (decide p || c) := by
  by_cases h : p <;> simp [h]
def inR (a b c : Int) : Bool := decide (b ≤ a) && decide (a ≤ c)
def isPat (o s : Int) : Bool := inR o 0 9 && inR s (-1) 9
def isSit (o s : Int) : Bool := inR o 1 9 && inR s 0 9
def mtch (po ps o s : Int) : Bool := isPat po ps && (isSit o s && ((decide (po = 0) || decide (po = o)) && (decide (ps = -1) || decide (ps = s))))
def narr (po ps qo qs : Int) : Bool := isPat po ps && (isPat qo qs && ((decide (qo = 0) || decide (po = qo)) && (decide (qs = -1) || decide (ps = qs))))
def isGra (e po ps k f u : Int) : Bool := inR e 1 5 && (isPat po ps && (inR k 1 4 && (decide (0 ≤ f) && (decide (f ≤ u) && decide (u ≤ 10000)))))
def isLim (e po ps k : Int) : Bool := inR e 0 5 && (isPat po ps && inR k 0 4)
def covr (e po ps k f u : Int) (cl : Bool) (ext o s kind tick : Int) (ck : Bool) : Bool :=
  isGra e po ps k f u && (decide (e = ext) && (decide (k = kind) && (mtch po ps o s && (inR tick f u && (ck || !cl)))))
def isRul (e p po ps s a o b : Int) : Bool :=
  inR e 1 5 && (inR p 1 9 && (isPat po ps && (inR s 0 4 && ((decide (a = 1) || decide (a = 2)) && (decide (o = 0) && decide (b = 0)) || decide (a = 3) && isSit o b))))
def isReq (o s t : Int) : Bool := isSit o s && inR t 1 4
def appl (e p po ps s a o b qo qs qt : Int) : Bool := isRul e p po ps s a o b && (isReq qo qs qt && (mtch po ps qo qs && (decide (s = 0) || decide (s = qt))))
def isLen (e po ps k f u : Int) (cl : Bool) : Bool := isGra e po ps k f u && (decide (po ≠ 0) && (decide (ps ≠ -1) && ((decide (k = 1) || decide (k = 2)) && (decide (u = f + 5) && !cl))))
def isLab (x : Int) : Bool := inR x 0 1022 && decide (Int.tmod x 2 = 0)
def befo (ae ap aa ao ab be bp ba bo bb : Int) : Bool :=
  if ap = bp then (if aa = ba then (if ae = be then (if ao = bo then decide (ab < bb) else decide (ao < bo)) else decide (ae < be)) else decide (aa < ba)) else decide (bp < ap)
def within (e po ps k f u : Int) (cl : Bool) (e' po' ps' k' f' u' : Int) (cl' : Bool) : Bool :=
  isGra e po ps k f u && (isGra e' po' ps' k' f' u' && (decide (e = e') && (decide (k = k') && (narr po ps po' ps' && (decide (f' ≤ f) && (decide (u ≤ u') && (cl || !cl')))))))
theorem take_set1 {α : Type} (s : List α) (i : Nat) (v : α) (h : i < s.length) : (s.set i v).take (i + 1) = s.take i ++ [v] := by
  rw [List.take_succ_eq_append_getElem (by simpa using h), List.take_set, List.set_eq_of_length_le (by simp; omega)]
  simp
theorem loop_up {σ ρ : Type} (g : Nat → σ → Int → Option ρ) (n : Nat) (out : σ → Nat → ρ) (I : σ → Nat → Prop) (hn : n ≤ 9223372036854775806)
    (hstep : ∀ (k : Nat) (s : σ) (i : Nat), i < n → I s i → (∀ s', I s' (i + 1) → g k s' (wrap64 ((i : Int) + 1)) = some (out s' (i + 1))) → g (k + 1) s (i : Int) = some (out s i))
    (hend : ∀ (k : Nat) (s : σ), I s n → g (k + 1) s (n : Int) = some (out s n)) :
    ∀ (d k : Nat) (s : σ) (i : Nat), i + d = n → d < k → I s i → g k s (i : Int) = some (out s i) := by
  intro d
  induction d with
  | zero =>
    intro k s i hi hk hI
    obtain ⟨k, rfl⟩ : ∃ m, k = m + 1 := ⟨k - 1, by omega⟩
    obtain rfl : i = n := by omega
    exact hend k s hI
  | succ d ih =>
    intro k s i hi hk hI
    obtain ⟨k, rfl⟩ : ∃ m, k = m + 1 := ⟨k - 1, by omega⟩
    refine hstep k s i (by omega) hI fun s' hI' => ?_
    have := ih k s' (i + 1) (by omega) (by omega) hI'
    rw [wr (by omega) (by omega)]
    exact_mod_cast this
theorem loop_from {σ ρ : Type} {g : Nat → σ → Int → Option ρ} {n : Nat} {out : σ → Nat → ρ} {I : σ → Nat → Prop} (h : ∀ (d k : Nat) (s : σ) (i : Nat), i + d = n → d < k → I s i → g k s (i : Int) = some (out s i))
    (k : Nat) (hk : n < k) (s : σ) (hI : I s 0) : g k s 0 = some (out s 0) := by
  have := h n k s 0 (by omega) hk hI
  exact_mod_cast this
theorem drop_at {α : Type} (xs : List α) (i : Nat) (h : i < xs.length) : xs.drop i = xs[i] :: xs.drop (i + 1) := List.drop_eq_getElem_cons h

theorem nlt {n : Nat} : ¬ (n : Int) < (n : Int) := by omega
/-- where a list is copied element by element into a made one -/
theorem rd_at {α : Type} (z : α) (xs : List α) (i : Nat) (h : i < xs.length) : xs.getD (i : Int).toNat z = xs[i] := by simp [h]

theorem loop_upm {σ ρ : Type} (m : Nat) (g : Nat → σ → Int → Option ρ) (n : Nat) (out : σ → Nat → ρ) (I : σ → Nat → Prop) (hn : n ≤ 9223372036854775806)
    (hstep : ∀ (k : Nat) (s : σ) (i : Nat), m ≤ k → i < n → I s i → (∀ s', I s' (i + 1) → g k s' (wrap64 ((i : Int) + 1)) = some (out s' (i + 1))) → g (k + 1) s (i : Int) = some (out s i))
    (hend : ∀ (k : Nat) (s : σ), m ≤ k → I s n → g (k + 1) s (n : Int) = some (out s n)) :
    ∀ (d k : Nat) (s : σ) (i : Nat), i + d = n → d + m < k → I s i → g k s (i : Int) = some (out s i) := by
  intro d
  induction d with
  | zero =>
    intro k s i hi hk hI
    obtain ⟨k, rfl⟩ : ∃ m, k = m + 1 := ⟨k - 1, by omega⟩
    obtain rfl : i = n := by omega
    exact hend k s (by omega) hI
  | succ d ih =>
    intro k s i hi hk hI
    obtain ⟨k, rfl⟩ : ∃ m, k = m + 1 := ⟨k - 1, by omega⟩
    refine hstep k s i (by omega) (by omega) hI fun s' hI' => ?_
    have := ih k s' (i + 1) (by omega) (by omega) hI'
    rw [wr (by omega) (by omega)]
    exact_mod_cast this
theorem loop_fromm {σ ρ : Type} {m : Nat} {g : Nat → σ → Int → Option ρ} {n : Nat} {out : σ → Nat → ρ} {I : σ → Nat → Prop} (h : ∀ (d k : Nat) (s : σ) (i : Nat), i + d = n → d + m < k → I s i → g k s (i : Int) = some (out s i))
    (k : Nat) (hk : n + m < k) (s : σ) (hI : I s 0) : g k s 0 = some (out s 0) := by
  have := h n k s 0 (by omega) hk hI
  exact_mod_cast this
theorem loop_run {σ ρ : Type} (m : Nat) (g : Nat → σ → Int → Option ρ) (n : Nat) (out : σ → Nat → ρ) (I : σ → Nat → Prop) (hn : n ≤ 9223372036854775806)
    (hstep : ∀ (k : Nat) (s : σ) (i : Nat), m ≤ k → i < n → I s i → (∀ s', I s' (i + 1) → g k s' (wrap64 ((i : Int) + 1)) = some (out s' (i + 1))) → g (k + 1) s (i : Int) = some (out s i))
    (hend : ∀ (k : Nat) (s : σ), m ≤ k → I s n → g (k + 1) s (n : Int) = some (out s n)) (k : Nat) (hk : n + m < k) (s : σ) (hI : I s 0) : g k s 0 = some (out s 0) :=
  loop_fromm (loop_upm m g n out I hn hstep hend) k hk s hI
theorem if_and2 {α : Type} (a : Bool) (p : Prop) [Decidable p] (x y : α) : (if a = true then (if p then x else y) else y) = if (a && decide p) = true then x else y := by
  cases a <;> by_cases h : p <;> simp [h]

theorem if_nand {α : Type} (a b : Bool) (x y : α) : (if a = true then (if b = true then y else x) else x) = if (!(a && b)) = true then x else y := by
  cases a <;> cases b <;> simp
theorem rdPattern_l (xs : List S24) (i : Nat) (h : i < xs.length) : rd_T24 xs (i : Int) = xs[i] := rd_at _ xs i h
theorem rdSite_l (xs : List S25) (i : Nat) (h : i < xs.length) : rd_T25 xs (i : Int) = xs[i] := rd_at _ xs i h
theorem rdRule_l (xs : List S27) (i : Nat) (h : i < xs.length) : rd_T27 xs (i : Int) = xs[i] := rd_at _ xs i h
theorem rdPattern_i (xs : List S32) (i : Nat) (h : i < xs.length) : rd_T32 xs (i : Int) = xs[i] := rd_at _ xs i h
theorem rdSite_i (xs : List S33) (i : Nat) (h : i < xs.length) : rd_T33 xs (i : Int) = xs[i] := rd_at _ xs i h
theorem rdRule_i (xs : List S35) (i : Nat) (h : i < xs.length) : rd_T35 xs (i : Int) = xs[i] := rd_at _ xs i h

def appS (r : S35) (qo qs qt : Int) : Bool := appl r.f0 r.f1 r.f2.f0 r.f2.f1 r.f3 r.f4 r.f5.f0 r.f5.f1 qo qs qt
def befS (a b : S35) : Bool := befo a.f0 a.f1 a.f4 a.f5.f0 a.f5.f1 b.f0 b.f1 b.f4 b.f5.f0 b.f5.f1
def dFrom (xs : List S35) (qo qs qt : Int) : List S35 → Nat → Int → Int
  | [], _, b => b
  | r :: rs, i, b => dFrom xs qo qs qt rs (i + 1) (if (appS r qo qs qt && (decide (b < 0) || befS r (rd_T35 xs b))) = true then (i : Int) else b)
def decM (xs : List S35) (qo qs qt : Int) : Int := dFrom xs qo qs qt xs 0 (-1)
theorem dFrom_range (xs : List S35) (qo qs qt : Int) : ∀ (rs : List S35) (i : Nat) (b : Int), -1 ≤ b → b < i → -1 ≤ dFrom xs qo qs qt rs i b ∧ dFrom xs qo qs qt rs i b < i + rs.length
  | [], i, b, h0, h1 => by simp [dFrom]; omega
  | r :: rs, i, b, h0, h1 => by
    simp only [dFrom]
    have := dFrom_range xs qo qs qt rs (i + 1) (if (appS r qo qs qt && (decide (b < 0) || befS r (rd_T35 xs b))) = true then (i : Int) else b) (by split <;> omega) (by split <;> omega)
    simp only [List.length_cons]
    omega
theorem decM_range (xs : List S35) (qo qs qt : Int) : -1 ≤ decM xs qo qs qt ∧ decM xs qo qs qt < xs.length := by
  have := dFrom_range xs qo qs qt xs 0 (-1) (by omega) (by omega)
  simpa [decM] using this

def aFrom (qo qs qt : Int) : List S35 → Nat → List Int
  | [], _ => []
  | r :: rs, i => (if appS r qo qs qt = true then [(i : Int)] else []) ++ aFrom qo qs qt rs (i + 1)
theorem aFrom_mem (qo qs qt : Int) : ∀ (rs : List S35) (i : Nat) (x : Int), x ∈ aFrom qo qs qt rs i → (i : Int) ≤ x ∧ x < i + rs.length
  | [], i, x, h => by simp [aFrom] at h
  | r :: rs, i, x, h => by
    simp only [aFrom, List.mem_append] at h
    rcases h with h | h
    · split at h
      · simp at h; simp; omega
      · simp at h
    · have := aFrom_mem qo qs qt rs (i + 1) x h
      simp; omega
theorem aFrom_len (qo qs qt : Int) : ∀ (rs : List S35) (i : Nat), (aFrom qo qs qt rs i).length ≤ rs.length
  | [], i => by simp [aFrom]
  | r :: rs, i => by
    have := aFrom_len qo qs qt rs (i + 1)
    simp only [aFrom, List.length_append, List.length_cons]
    split <;> simp <;> omega

theorem szRule (xs : List S27) (a : Int) (h0 : 0 ≤ a) (h1 : a ≤ 1048576) (hl : xs.length ≤ 9223372036854775807) : laws_szRuleS.f xs a = some (if a < xs.length then -1 else a - xs.length) := by
  unfold laws_szRuleS.f
  rw [wr (by omega) (by omega)]
  by_cases h : a < xs.length
  · rw [if_pos (by omega), if_pos h]
  · rw [if_neg (by omega), if_neg h]

theorem toSite_eq (a0 : Int) (a1 : Int) : laws_toSite.f a0 a1 = some (a0, a1) := by
  unfold laws_toSite.f; rfl

theorem toRule_eq (a0 : Int) (a1 : Int) (a2 : Int) (a3 : Int) (a4 : Int) (a5 : Int) (a6 : Int) (a7 : Int) : laws_toRule.f a0 a1 a2 a3 a4 a5 a6 a7 = some (a0, a1, a2, a3, a4, a5, a6, a7) := by
  unfold laws_toRule.f laws_toPattern.f laws_toSite.f; rfl

def cvRule (r : S27) : S35 := ⟨r.f0, r.f1, ⟨r.f2.f0, r.f2.f1⟩, r.f3, r.f4, ⟨r.f5.f0, r.f5.f1⟩⟩
theorem toRuleS_eq (k : Nat) (xs : List S27) (hn : xs.length ≤ 1048576) (hk : xs.length < k) : laws_toRuleS.f k xs = some (xs.map cvRule) := by
  have L := loop_up (fun k (s : List S35) i => laws_toRuleS.l0 k xs s i) xs.length (fun s i => s.take i ++ (xs.drop i).map cvRule) (fun s _ => s.length = xs.length) (by omega)
    (fun k s i hi hI ih => by
      simp only [laws_toRuleS.l0]
      rw [if_pos (by omega), if_pos (by omega), rdRule_l xs i hi, toRule_eq]
      simp only [Option.bind_some]
      rw [if_pos (by omega), ih _ (by simp [hI]), Int.toNat_natCast, take_set1 _ _ _ (by omega), drop_at xs i hi, List.map_cons, List.append_assoc]
      rfl)
    (fun k s hI => by
      simp only [laws_toRuleS.l0]
      rw [if_neg nlt, List.drop_of_length_le (Nat.le_refl _), List.take_of_length_le (by omega)]
      simp)
  unfold laws_toRuleS.f
  rw [if_pos (by omega), if_pos (by omega)]
  rw [loop_from L k hk _ (by simp)]
  simp

theorem eqSite_self (a0 : Int) (a1 : Int) : laws_eqSite.f a0 a1 a0 a1 = some true := by
  simp [laws_eqSite.f]

theorem spec_in (a b c : Int) : spec_l1In.f a b c = some (inR a b c) := by
  unfold spec_l1In.f inR; exact and_if _ _

theorem spec_sit (a b : Int) : spec_IsSite.f a b = some (isSit a b) := by
  unfold spec_IsSite.f isSit; simp only [spec_in, Option.bind_some]; cases inR a 1 9 <;> simp

theorem spec_req (o s t : Int) : spec_IsRequest.f o s t = some (isReq o s t) := by
  unfold spec_IsRequest.f isReq; simp only [spec_sit, spec_in, Option.bind_some]
  cases isSit o s <;> simp

theorem spec_pat (a b : Int) : spec_IsPattern.f a b = some (isPat a b) := by
  unfold spec_IsPattern.f isPat; simp only [spec_in, Option.bind_some]; cases inR a 0 9 <;> simp

theorem spec_befo (a0 a1 a2 a3 a4 a5 a6 a7 b0 b1 b2 b3 b4 b5 b6 b7 : Int) : spec_IsBefore.f a0 a1 a2 a3 a4 a5 a6 a7 b0 b1 b2 b3 b4 b5 b6 b7 = some (befo a0 a1 a5 a6 a7 b0 b1 b5 b6 b7) := by
  unfold spec_IsBefore.f befo
  by_cases h1 : a1 = b1 <;> by_cases h2 : a5 = b5 <;> by_cases h3 : a0 = b0 <;> by_cases h4 : a6 = b6 <;> simp [h1, h2, h3, h4]


def sameSs (a b : Int) (r : S33) : Bool := (r.f0 == a && (r.f1 == b))
theorem spec_has_eq (k : Nat) (xs : List S33) (a b : Int) (hn : xs.length ≤ 1048576) (hk : xs.length < k) : spec_l18Has.f k xs a b = some (xs.any (sameSs a b)) := by
  have L := loop_run 0 (fun k (_ : Unit) i => spec_l18Has.l0 k xs i a b) xs.length (fun _ i => (xs.drop i).any (sameSs a b)) (fun _ _ => True) (by omega)
    (fun k u_ i hm hi hI ih => by
      have hd := drop_at xs i hi
      have hr := rdSite_i xs i hi
      generalize xs[i] = r at hd hr
      have ih' := ih () trivial
      try dsimp only at ih'
      simp only [spec_l18Has.l0]
      rw [if_pos (by omega), if_pos (by omega)]
      simp only [hr]
      rw [hd, List.any_cons, ih']
      show (if sameSs a b r = true then some true else _) = _
      cases sameSs a b r <;> simp only [Bool.false_eq_true, Bool.false_or, Bool.true_or, if_true, if_false])
    (fun k u_ hm hI => by
      simp only [spec_l18Has.l0]
      rw [if_neg nlt, List.drop_of_length_le (Nat.le_refl _)]
      rfl) k hk () trivial
  try dsimp only at L
  unfold spec_l18Has.f
  rw [L, List.drop_zero]

theorem impl_in (a b c : Int) : impl_InRange.f a b c = some (inR a b c) := by
  unfold impl_InRange.f inR; exact and_if _ _

theorem impl_sit (a b : Int) : impl_IsSite.f a b = some (isSit a b) := by
  unfold impl_IsSite.f isSit; simp only [impl_in, Option.bind_some]; cases inR a 1 9 <;> simp

theorem impl_req (o s t : Int) : impl_IsRequest.f o s t = some (isReq o s t) := by
  unfold impl_IsRequest.f isReq; simp only [impl_sit, impl_in, Option.bind_some]
  cases isSit o s <;> simp

theorem or5 (n : Nat) (a b c d e : Int) : cmp_Or_int.f (n + 6) [a, b, c, d, e] = some (if a = 0 then (if b = 0 then (if c = 0 then (if d = 0 then e else d) else c) else b) else a) := by
  have w0 : wrap64 (0 + 1) = 1 := wr (by omega) (by omega)
  have w1 : wrap64 (1 + 1) = 2 := wr (by omega) (by omega)
  have w2 : wrap64 (2 + 1) = 3 := wr (by omega) (by omega)
  have w3 : wrap64 (3 + 1) = 4 := wr (by omega) (by omega)
  have w4 : wrap64 (4 + 1) = 5 := wr (by omega) (by omega)
  unfold cmp_Or_int.f
  simp only [cmp_Or_int.l0, w0, w1, w2, w3, w4]
  by_cases h1 : a = 0 <;> by_cases h2 : b = 0 <;> by_cases h3 : c = 0 <;> by_cases h4 : d = 0 <;> by_cases h5 : e = 0 <;> simp [h1, h2, h3, h4, h5, rd]

theorem cmp_eq (a b : Int) : cmp_Compare_int.f a b = some (if a < b then -1 else if a > b then 1 else 0) := by
  unfold cmp_Compare_int.f cmp_isNaN_int.f; simp only [Option.bind_some, bne_self_eq_false]
  by_cases h1 : a < b <;> by_cases h2 : a > b <;> simp [h1, h2]

theorem impl_pat (a b : Int) : impl_IsPattern.f a b = some (isPat a b) := by
  unfold impl_IsPattern.f isPat; simp only [impl_in, Option.bind_some]; cases inR a 0 9 <;> simp


def sameSite (a b : Int) (r : S33) : Bool := (r.f0 == a && (r.f1 == b))
theorem sameSite_c (a b : Int) (r : S33) : (a == r.f0 && (b == r.f1)) = sameSite a b r := by
  have E0 : ∀ x y : Int, (x == y) = (y == x) := fun x y => by rw [beq_dec, beq_dec]; exact decide_eq_decide.2 eq_comm
  unfold sameSite
  rw [E0 a, E0 b]

theorem ixSite_l (k : Nat) (xs : List S33) (a b : Int) (hn : xs.length ≤ 1048576) (hk : xs.length < k) : impl_Site_142.f k xs a b = some (if xs.any (sameSite a b) then ((xs.findIdx (sameSite a b) : Nat) : Int) else -1) := by
  have L := loop_run 0 (fun k (_ : Unit) i => impl_Site_142.l0 k xs (xs.length : Int) i a b) xs.length (fun _ i => if (xs.drop i).any (sameSite a b) then ((i + (xs.drop i).findIdx (sameSite a b) : Nat) : Int) else -1) (fun _ _ => True) (by omega)
    (fun k u_ i hm hi hI ih => by
      have hd := drop_at xs i hi
      have hr := rdSite_i xs i hi
      generalize xs[i] = r at hd hr
      have ih' := ih () trivial
      try dsimp only at ih'
      simp only [impl_Site_142.l0]
      rw [if_pos (by omega), if_pos (by omega), if_pos (by omega)]
      simp only [hr]
      rw [sameSite_c, ih', hd, List.any_cons, List.findIdx_cons]
      cases sameSite a b r
      · simp only [Bool.false_or, Bool.false_eq_true, if_false, cond_false]
        congr 1
        split
        · omega
        · rfl
      · simp)
    (fun k u_ hm hI => by
      simp only [impl_Site_142.l0]
      rw [if_neg nlt, List.drop_of_length_le (Nat.le_refl _)]
      simp) k hk () trivial
  try dsimp only at L
  unfold impl_Site_142.f
  rw [L, List.drop_zero, Nat.zero_add]


theorem hasSite_eq (k : Nat) (xs : List S33) (a b : Int) (hn : xs.length ≤ 1048576) (hk : xs.length < k) : impl_Site_119.f k xs a b = some (xs.any (sameSite a b)) := by
  unfold impl_Site_119.f
  rw [ixSite_l k xs a b hn hk, Option.bind_some]
  congr 1
  split
  · next h => rw [h]; exact decide_eq_true (by omega)
  · next h => rw [Bool.eq_false_iff.2 h]; rfl

theorem eqRule_self (a0 : Int) (a1 : Int) (a2 : Int) (a3 : Int) (a4 : Int) (a5 : Int) (a6 : Int) (a7 : Int) : laws_eqRule.f a0 a1 a2 a3 a4 a5 a6 a7 a0 a1 a2 a3 a4 a5 a6 a7 = some true := by
  simp [laws_eqRule.f, laws_eqPattern.f, laws_eqSite.f]

theorem eqRuleS_self (k : Nat) (xs : List S35) (hn : xs.length ≤ 1048576) (hk : xs.length < k) : laws_eqRuleS.f k xs xs = some true := by
  have L := loop_up (fun k (_ : Unit) i => laws_eqRuleS.l0 k xs xs i) xs.length (fun _ _ => true) (fun _ _ => True) (by omega)
    (fun k s i hi hI ih => by
      simp only [laws_eqRuleS.l0]
      rw [if_pos (by omega), if_pos (by omega), if_pos (by omega)]
      simp only [eqRule_self, Option.bind_some, if_true]
      exact ih () trivial)
    (fun k s hI => by
      simp only [laws_eqRuleS.l0]
      rw [if_neg nlt])
  unfold laws_eqRuleS.f
  rw [if_pos rfl]
  exact loop_from L k hk () trivial

def mkRule : Int → List S35 → List S35
  | _, [] => []
  | m, x :: xs => ⟨m, m + 1, ⟨m + 2, m + 3⟩, m + 4, m + 5, ⟨m + 6, m + 7⟩⟩ :: mkRule (m + 8) xs
theorem mkRule_len : ∀ (xs : List S35) (m : Int), (mkRule m xs).length = xs.length
  | [], _ => rfl
  | x :: xs, m => by simp [mkRule, mkRule_len xs]
theorem rdRule_set (xs : List S35) (i : Nat) (v : S35) (h : i < xs.length) : rd_T35 (xs.set i v) (i : Int) = v := by
  rw [rdRule_i _ i (by simpa using h)]; simp
set_option maxHeartbeats 4000000 in
theorem markRuleS_eq (k : Nat) (xs : List S35) (hn : xs.length ≤ 1048576) (hk : xs.length < k) : laws_markRuleS.f k xs 1 = some (1 + 8 * (xs.length : Int), mkRule 1 xs) := by
  have L := loop_up (fun k (s : List S35 × Int) i => laws_markRuleS.l0 k s.1 s.2 i) xs.length (fun s i => (s.2 + 8 * ((xs.length - i : Nat) : Int), s.1.take i ++ mkRule s.2 (s.1.drop i))) (fun s i => s.1.length = xs.length ∧ 1 ≤ s.2 ∧ s.2 ≤ 1 + 8 * i) (by omega)
    (fun k s i hi hI ih => by
      obtain ⟨s, m⟩ := s
      obtain ⟨h1, h2, h3⟩ := hI
      simp only at h1 h2 h3
      simp only [laws_markRuleS.l0]
      rw [if_pos (by omega), if_pos (by omega)]
      have hw : ∀ j : Int, 0 ≤ j → j ≤ 10 → wrap64 (m + j) = m + j := fun j _ _ => wr (by omega) (by omega)
      have hv : ∀ j : Int, 0 ≤ j → j ≤ 9 → wrap64 (m + j + 1) = m + (j + 1) := fun j _ _ => by rw [Int.add_assoc]; exact hw (j + 1) (by omega) (by omega)
      have w1 : wrap64 (m + 1) = m + 1 := hw 1 (by decide) (by decide)
      have w2 : wrap64 (m + 2) = m + 2 := hw 2 (by decide) (by decide)
      have w3 : wrap64 (m + 3) = m + 3 := hw 3 (by decide) (by decide)
      have w4 : wrap64 (m + 4) = m + 4 := hw 4 (by decide) (by decide)
      have w5 : wrap64 (m + 5) = m + 5 := hw 5 (by decide) (by decide)
      have w6 : wrap64 (m + 6) = m + 6 := hw 6 (by decide) (by decide)
      have w7 : wrap64 (m + 7) = m + 7 := hw 7 (by decide) (by decide)
      have w8 : wrap64 (m + 8) = m + 8 := hw 8 (by decide) (by decide)
      have v1 : wrap64 (m + 1 + 1) = m + 2 := hv 1 (by decide) (by decide)
      have v2 : wrap64 (m + 2 + 1) = m + 3 := hv 2 (by decide) (by decide)
      have v3 : wrap64 (m + 3 + 1) = m + 4 := hv 3 (by decide) (by decide)
      have v4 : wrap64 (m + 4 + 1) = m + 5 := hv 4 (by decide) (by decide)
      have v5 : wrap64 (m + 5 + 1) = m + 6 := hv 5 (by decide) (by decide)
      have v6 : wrap64 (m + 6 + 1) = m + 7 := hv 6 (by decide) (by decide)
      have v7 : wrap64 (m + 7 + 1) = m + 8 := hv 7 (by decide) (by decide)
      clear hw hv
      simp only [Option.bind_some, Int.toNat_natCast, w1, w2, w3, w4, w5, w6, w7, w8, v1, v2, v3, v4, v5, v6, v7]
      simp only [rdRule_set _ _ _ (show i < (s.set i _).length by simp; omega), rdRule_set _ _ _ (show i < s.length by omega), List.set_set, rdRule_i s i (by omega)]
      have hd := drop_at s i (by omega)
      have := ih (s.set i (let x := s[i]; ⟨m, m + 1, ⟨m + 2, m + 3⟩, m + 4, m + 5, ⟨m + 6, m + 7⟩⟩), m + 8) (by simp; omega)
      simp only at this
      rw [this]
      rw [take_set1 _ _ _ (by omega), hd]
      simp only [mkRule, List.append_assoc, List.singleton_append, List.cons_append, List.nil_append]
      congr 2
      · omega
      · simp [List.drop_set]
    )
    (fun k s hI => by
      simp only [laws_markRuleS.l0]
      rw [if_neg (by omega), List.drop_of_length_le (by omega), List.take_of_length_le (by omega)]
      simp [mkRule])
  unfold laws_markRuleS.f
  have := loop_from L k hk (xs, 1) (by simp)
  try simp only at this
  rw [this]
  simp

theorem spec_rul (e p po ps s a o b : Int) : spec_IsRule.f e p po ps s a o b = some (isRul e p po ps s a o b) := by
  unfold spec_IsRule.f isRul; simp only [spec_in, spec_pat, Option.bind_some, spec_sit]
  cases inR e 1 5 <;> cases inR p 1 9 <;> cases isPat po ps <;> cases inR s 0 4 <;> simp
  by_cases h1 : a = 1
  · subst h1; simp [beq_dec, inR]
  · by_cases h2 : a = 2
    · subst h2; simp [beq_dec, inR]
    · by_cases h3 : a = 3
      · subst h3; cases isSit o b <;> simp [inR]
      · have : inR a 1 3 = false := by unfold inR; simp; omega
        simp [h1, h2, h3, this]

theorem spec_mtch (a b c d : Int) : spec_MatchSite.f a b c d = some (mtch a b c d) := by
  unfold spec_MatchSite.f mtch; simp only [spec_pat, spec_sit, Option.bind_some]
  cases isPat a b <;> cases isSit c d <;> simp
  by_cases h1 : a = 0 <;> by_cases h2 : a = c <;> by_cases h3 : b = -1 <;> simp [h1, h2, h3] <;> simp [beq_dec]

theorem spec_appl (e p po ps s a o b qo qs qt : Int) : spec_Applies.f e p po ps s a o b qo qs qt = some (appl e p po ps s a o b qo qs qt) := by
  unfold spec_Applies.f appl; simp only [spec_rul, spec_req, spec_mtch, Option.bind_some]
  cases isRul e p po ps s a o b <;> cases isReq qo qs qt <;> cases mtch po ps qo qs <;> by_cases h : s = 0 <;> simp [h, beq_dec]

theorem spec_DecideRule_eq (k : Nat) (xs : List S35) (qo qs qt : Int) (hn : xs.length ≤ 1048576) (hk : xs.length + 0 < k) : spec_DecideRule.f k xs qo qs qt = some (decM xs qo qs qt) := by
  have L := loop_run 0 (fun k (b : Int) i => spec_DecideRule.l0 k xs b i qo qs qt) xs.length (fun b i => dFrom xs qo qs qt (xs.drop i) i b) (fun b i => -1 ≤ b ∧ b < i) (by omega)
    (fun k b i hm hi hI ih => by
      have hd := drop_at xs i hi
      have hr := rdRule_i xs i hi
      generalize xs[i] = r at hd hr
      obtain ⟨h0, h1⟩ := hI
      simp only [spec_DecideRule.l0]
      rw [if_pos (by omega), if_pos (by omega), hr, hd]
      simp only [dFrom, spec_appl, spec_befo, Option.bind_some, Option.bind_some]
      have ih1 := ih i (by omega)
      have ih2 := ih b (by omega)
      try dsimp only at ih1 ih2
      unfold appS befS
      cases appl r.f0 r.f1 r.f2.f0 r.f2.f1 r.f3 r.f4 r.f5.f0 r.f5.f1 qo qs qt
      · simp only [Bool.false_and, Bool.false_eq_true, if_false]; exact ih2
      · by_cases hb : b < 0
        · simp only [hb, if_true, decide_true, Bool.true_or, Bool.and_true]; exact ih1
        · rw [if_pos rfl, if_neg hb, if_pos (by omega), if_pos (by omega)]
          have hb' : decide (b < 0) = false := decide_eq_false hb
          simp only [hb', Bool.false_or, Bool.true_and]
          split
          · exact ih1
          · exact ih2)
    (fun k b hm hI => by
      simp only [spec_DecideRule.l0]
      rw [if_neg nlt, List.drop_of_length_le (Nat.le_refl _)]
      rfl) k hk (-1) (by omega)
  try dsimp only at L
  unfold spec_DecideRule.f
  rw [L]
  rfl

theorem spec_ActionFor_eq (k : Nat) (xs : List S35) (qo qs qt : Int) (hn : xs.length ≤ 1048576) (hk : xs.length + 0 < k) : spec_ActionFor.f k xs qo qs qt = some (if decM xs qo qs qt < 0 then 1 else (rd_T35 xs (decM xs qo qs qt)).f4) := by
  unfold spec_ActionFor.f
  rw [spec_DecideRule_eq k xs qo qs qt hn hk]
  have h := decM_range xs qo qs qt
  simp only [Option.bind_some]
  by_cases hb : decM xs qo qs qt < 0
  · rw [if_pos hb, if_pos hb]
  · rw [if_neg hb, if_neg hb, if_pos (by omega), if_pos (by omega)]


theorem dFrom_app (xs : List S35) (qo qs qt : Int) : ∀ (d i : Nat) (b : Int), i + d = xs.length → (0 ≤ b → appS (rd_T35 xs b) qo qs qt = true) → 0 ≤ dFrom xs qo qs qt (xs.drop i) i b →
    appS (rd_T35 xs (dFrom xs qo qs qt (xs.drop i) i b)) qo qs qt = true := by
  intro d
  induction d with
  | zero =>
    intro i b hi hb h
    have e : xs.drop i = [] := List.drop_of_length_le (by omega)
    rw [e] at h ⊢
    exact hb h
  | succ d ih =>
    intro i b hi hb h
    have hd := drop_at xs i (by omega)
    have hr := rdRule_i xs i (by omega)
    rw [hd] at h ⊢
    simp only [dFrom] at h ⊢
    refine ih (i + 1) _ (by omega) ?_ h
    intro h0
    split
    · next hc =>
      rw [hr]
      simp only [Bool.and_eq_true] at hc
      exact hc.1
    · next hc =>
      rw [if_neg hc] at h0
      exact hb h0
theorem decM_to (xs : List S35) (qo qs qt : Int) (h : 0 ≤ decM xs qo qs qt) (h1 : ¬ (rd_T35 xs (decM xs qo qs qt)).f4 = 1) (h2 : ¬ (rd_T35 xs (decM xs qo qs qt)).f4 = 2) :
    isSit (rd_T35 xs (decM xs qo qs qt)).f5.f0 (rd_T35 xs (decM xs qo qs qt)).f5.f1 = true := by
  have := dFrom_app xs qo qs qt xs.length 0 (-1) (by omega) (fun h => absurd h (by decide)) (by simpa [decM] using h)
  rw [List.drop_zero] at this
  change appS (rd_T35 xs (decM xs qo qs qt)) qo qs qt = true at this
  generalize rd_T35 xs (decM xs qo qs qt) = r at this h1 h2 ⊢
  unfold appS appl isRul at this
  simp only [Bool.and_eq_true, Bool.or_eq_true, decide_eq_true_eq] at this
  obtain ⟨⟨_, _, _, _, ht⟩, _⟩ := this
  rcases ht with ⟨h | h, _⟩ | ⟨_, h⟩
  · exact absurd h h1
  · exact absurd h h2
  · exact h
def actM (xs : List S35) (qo qs qt : Int) : Int := if decM xs qo qs qt < 0 then 1 else (rd_T35 xs (decM xs qo qs qt)).f4
def folS (xs : List S35) (qt qo qs : Int) (p : List S33) (c : Int → Int → List S33 → Int × Int × Int × List S33) : Int × Int × Int × List S33 :=
  if actM xs qo qs qt = 1 then (1, qo, qs, p ++ [(⟨qo, qs⟩ : S33)]) else if actM xs qo qs qt = 2 then (2, qo, qs, p ++ [(⟨qo, qs⟩ : S33)]) else
  if (p ++ [(⟨qo, qs⟩ : S33)]).any (sameSs (rd_T35 xs (decM xs qo qs qt)).f5.f0 (rd_T35 xs (decM xs qo qs qt)).f5.f1) = true then (3, (rd_T35 xs (decM xs qo qs qt)).f5.f0, (rd_T35 xs (decM xs qo qs qt)).f5.f1, p ++ [(⟨qo, qs⟩ : S33)])
  else c (rd_T35 xs (decM xs qo qs qt)).f5.f0 (rd_T35 xs (decM xs qo qs qt)).f5.f1 (p ++ [(⟨qo, qs⟩ : S33)])
def fol (xs : List S35) (qt : Int) : Nat → Int → Int → List S33 → Int × Int × Int × List S33
  | 0, qo, qs, p => folS xs qt qo qs p fun a b p' => (4, a, b, p')
  | n + 1, qo, qs, p => folS xs qt qo qs p fun a b p' => fol xs qt n a b p'
def folM (xs : List S35) (qo qs qt : Int) : Int × Int × Int × List S33 := if isReq qo qs qt = true then fol xs qt 5 qo qs [] else (0, 0, 0, [])
theorem spec_folS (xs : List S35) (hn : xs.length ≤ 1048576) (qt : Int) (ht : inR qt 1 4 = true) (k : Nat) (qo qs c x y : Int) (p : List S33) (F : Int → Int → List S33 → Int × Int × Int × List S33)
    (hp : p.length ≤ 5) (hq : isSit qo qs = true) (hk : xs.length + 20 < k)
    (hF : ∀ a b, isSit a b = true → (p ++ [(⟨qo, qs⟩ : S33)]).any (sameSs a b) = false → spec_FollowRequest.j1 (k + 1) xs (decide (((p ++ [(⟨qo, qs⟩ : S33)]).length : Int) ≥ 6)) qo qs qt c qo qs (p ++ [(⟨qo, qs⟩ : S33)]) a b = some (F a b (p ++ [(⟨qo, qs⟩ : S33)]))) :
    spec_FollowRequest.l0 (k + 2) xs qo qs qt c x y p = some (folS xs qt qo qs p F) := by
  have hr : isReq qo qs qt = true := by unfold isReq; rw [hq, ht]; rfl
  have hl : (p ++ [(⟨qo, qs⟩ : S33)]).length = p.length + 1 := by simp
  unfold folS
  rw [spec_FollowRequest.l0, spec_req, hr, Option.bind_some, if_pos rfl, if_pos (by omega), Option.bind_some, spec_ActionFor_eq _ xs _ _ _ hn (by omega), Option.bind_some]
  rw [show (if decM xs qo qs qt < 0 then (1 : Int) else (rd_T35 xs (decM xs qo qs qt)).f4) = actM xs qo qs qt from rfl]
  by_cases h1 : actM xs qo qs qt = 1
  · rw [if_pos h1, if_pos h1]
  · rw [if_neg h1, if_neg h1]
    by_cases h2 : actM xs qo qs qt = 2
    · rw [if_pos h2, if_pos h2]
    · rw [if_neg h2, if_neg h2]
      have h0 : ¬ decM xs qo qs qt < 0 := fun h => h1 (by unfold actM; rw [if_pos h])
      have hR := decM_range xs qo qs qt
      have e : actM xs qo qs qt = (rd_T35 xs (decM xs qo qs qt)).f4 := by unfold actM; rw [if_neg h0]
      rw [e] at h1 h2
      have hs := decM_to xs qo qs qt (by omega) h1 h2
      rw [spec_DecideRule_eq _ xs _ _ _ hn (by omega), Option.bind_some, if_pos (by omega), if_pos (by omega), spec_has_eq _ _ _ _ (by omega) (by omega), Option.bind_some]
      cases hh : (p ++ [(⟨qo, qs⟩ : S33)]).any (sameSs (rd_T35 xs (decM xs qo qs qt)).f5.f0 (rd_T35 xs (decM xs qo qs qt)).f5.f1)
      · rw [if_neg (by simp), if_neg (by simp)]
        exact hF _ _ hs hh
      · rw [if_pos rfl, if_pos rfl, spec_FollowRequest.j1, if_pos rfl, spec_has_eq _ _ _ _ (by omega) (by omega), Option.bind_some, hh, if_pos rfl]
theorem spec_fol (xs : List S35) (hn : xs.length ≤ 1048576) (qt : Int) (ht : inR qt 1 4 = true) : ∀ (n k : Nat) (qo qs c x y : Int) (p : List S33), p.length + n = 5 → isSit qo qs = true → xs.length + 30 + 2 * n < k →
    spec_FollowRequest.l0 k xs qo qs qt c x y p = some (fol xs qt n qo qs p)
  | 0, k, qo, qs, c, x, y, p, hp, hq, hk => by
    obtain ⟨k, rfl⟩ : ∃ m, k = m + 2 := ⟨k - 2, by omega⟩
    refine spec_folS xs hn qt ht k qo qs c x y p _ (by omega) hq (by omega) fun a b hs hh => ?_
    have hl : (p ++ [(⟨qo, qs⟩ : S33)]).length = p.length + 1 := by simp
    rw [spec_FollowRequest.j1, if_pos (decide_eq_true (by omega)), spec_has_eq _ _ _ _ (by omega) (by omega), Option.bind_some, hh, if_neg (by simp)]
  | n + 1, k, qo, qs, c, x, y, p, hp, hq, hk => by
    obtain ⟨k, rfl⟩ : ∃ m, k = m + 2 := ⟨k - 2, by omega⟩
    refine spec_folS xs hn qt ht k qo qs c x y p _ (by omega) hq (by omega) fun a b hs hh => ?_
    have hl : (p ++ [(⟨qo, qs⟩ : S33)]).length = p.length + 1 := by simp
    rw [spec_FollowRequest.j1, decide_eq_false (by omega), if_neg (by simp)]
    exact spec_fol xs hn qt ht n k a b c qo qs _ (by omega) hs (by omega)
theorem spec_Follow_eq (k : Nat) (xs : List S35) (qo qs qt : Int) (hn : xs.length ≤ 1048576) (hk : xs.length + 50 < k) : spec_FollowRequest.f k xs qo qs qt = some (folM xs qo qs qt) := by
  unfold spec_FollowRequest.f folM
  by_cases h : isReq qo qs qt = true
  · have h' := h
    unfold isReq at h'
    simp only [Bool.and_eq_true] at h'
    rw [if_pos h]
    exact spec_fol xs hn qt h'.2 5 k qo qs 0 0 0 [] (by simp) h'.1 (by omega)
  · rw [if_neg h]
    obtain ⟨k, rfl⟩ : ∃ m, k = m + 1 := ⟨k - 1, by omega⟩
    rw [spec_FollowRequest.l0, spec_req, Option.bind_some, if_neg h]

theorem impl_befo (n : Nat) (a0 a1 a2 a3 a4 a5 a6 a7 b0 b1 b2 b3 b4 b5 b6 b7 : Int) : impl_IsBefore.f (n + 6) a0 a1 a2 a3 a4 a5 a6 a7 b0 b1 b2 b3 b4 b5 b6 b7 = some (befo a0 a1 a5 a6 a7 b0 b1 b5 b6 b7) := by
  unfold impl_IsBefore.f impl_compareRules.f befo; simp only [cmp_eq, or5, Option.bind_some]
  rcases Int.lt_trichotomy a1 b1 with h | h | h
  · simp [show ¬ b1 < a1 by omega, show b1 > a1 by omega, show ¬ a1 = b1 by omega]
  · subst h
    rcases Int.lt_trichotomy a5 b5 with h | h | h
    · simp [h, show ¬ a5 = b5 by omega]
    · subst h
      rcases Int.lt_trichotomy a0 b0 with h | h | h
      · simp [h, show ¬ a0 = b0 by omega]
      · subst h
        rcases Int.lt_trichotomy a6 b6 with h | h | h
        · simp [h, show ¬ a6 = b6 by omega]
        · subst h
          rcases Int.lt_trichotomy a7 b7 with h | h | h
          · simp [h]
          · subst h; simp
          · simp [h, show ¬ a7 < b7 by omega]
        · simp [h, show ¬ a6 < b6 by omega, show ¬ a6 = b6 by omega]
      · simp [h, show ¬ a0 < b0 by omega, show ¬ a0 = b0 by omega]
    · simp [h, show ¬ a5 < b5 by omega, show ¬ a5 = b5 by omega]
  · simp [h, show ¬ a1 = b1 by omega]

theorem impl_mtch (a b c d : Int) : impl_MatchSite.f a b c d = some (mtch a b c d) := by
  unfold impl_MatchSite.f mtch; simp only [impl_pat, impl_sit, Option.bind_some]
  cases isPat a b <;> cases isSit c d <;> simp
  by_cases h1 : a = 0 <;> by_cases h2 : a = c <;> by_cases h3 : b = -1 <;> simp [h1, h2, h3] <;> simp [beq_dec]

theorem impl_rul (n : Nat) (e p po ps s a o b : Int) : impl_IsRule.f (n + 2) e p po ps s a o b = some (isRul e p po ps s a o b) := by
  unfold impl_IsRule.f isRul; simp only [impl_in, impl_pat, Option.bind_some, impl_IsRule.j0, impl_IsRule.j1, impl_sit]
  cases inR e 1 5 <;> cases inR p 1 9 <;> cases isPat po ps <;> cases inR s 0 4 <;> simp
  by_cases h1 : a = 1
  · subst h1; simp [beq_dec]
  · by_cases h2 : a = 2
    · subst h2; simp [beq_dec]
    · by_cases h3 : a = 3
      · subst h3; simp
      · simp [h1, h2, h3]

theorem impl_appl (n : Nat) (e p po ps s a o b qo qs qt : Int) : impl_Applies.f (n + 2) e p po ps s a o b qo qs qt = some (appl e p po ps s a o b qo qs qt) := by
  unfold impl_Applies.f appl; simp only [impl_rul, impl_req, impl_mtch, Option.bind_some]
  cases isRul e p po ps s a o b <;> cases isReq qo qs qt <;> cases mtch po ps qo qs <;> by_cases h : s = 0 <;> simp [h, beq_dec]

theorem impl_DecideRule_eq (k : Nat) (xs : List S35) (qo qs qt : Int) (hn : xs.length ≤ 1048576) (hk : xs.length + 6 < k) : impl_DecideRule.f k xs qo qs qt = some (decM xs qo qs qt) := by
  have L := loop_run 6 (fun k (b : Int) i => impl_DecideRule.l0 k xs b xs (xs.length : Int) i qo qs qt) xs.length (fun b i => dFrom xs qo qs qt (xs.drop i) i b) (fun b i => -1 ≤ b ∧ b < i) (by omega)
    (fun k b i hm hi hI ih => by
      have hd := drop_at xs i hi
      have hr := rdRule_i xs i hi
      generalize xs[i] = r at hd hr
      obtain ⟨h0, h1⟩ := hI
      simp only [impl_DecideRule.l0]
      obtain ⟨k, rfl⟩ : ∃ z, k = z + 6 := ⟨k - 6, by omega⟩
      rw [if_pos (by omega), if_pos (by omega), if_pos (by omega), hr, hd]
      simp only [dFrom, impl_appl, impl_befo, Option.bind_some, impl_appl (k + 4)]
      have ih1 := ih i (by omega)
      have ih2 := ih b (by omega)
      try dsimp only at ih1 ih2
      unfold appS befS
      cases appl r.f0 r.f1 r.f2.f0 r.f2.f1 r.f3 r.f4 r.f5.f0 r.f5.f1 qo qs qt
      · simp only [Bool.false_and, Bool.false_eq_true, if_false]; exact ih2
      · by_cases hb : b < 0
        · simp only [hb, if_true, decide_true, Bool.true_or, Bool.and_true]; exact ih1
        · rw [if_pos rfl, if_neg hb, if_pos (by omega), if_pos (by omega)]
          have hb' : decide (b < 0) = false := decide_eq_false hb
          simp only [hb', Bool.false_or, Bool.true_and]
          split
          · exact ih1
          · exact ih2)
    (fun k b hm hI => by
      simp only [impl_DecideRule.l0]
      rw [if_neg nlt, List.drop_of_length_le (Nat.le_refl _)]
      rfl) k hk (-1) (by omega)
  try dsimp only at L
  unfold impl_DecideRule.f
  rw [L]
  rfl

theorem impl_ActionFor_eq (k : Nat) (xs : List S35) (qo qs qt : Int) (hn : xs.length ≤ 1048576) (hk : xs.length + 6 < k) : impl_ActionFor.f k xs qo qs qt = some (if decM xs qo qs qt < 0 then 1 else (rd_T35 xs (decM xs qo qs qt)).f4) := by
  unfold impl_ActionFor.f
  rw [impl_DecideRule_eq k xs qo qs qt hn hk]
  have h := decM_range xs qo qs qt
  simp only [Option.bind_some]
  by_cases hb : decM xs qo qs qt < 0
  · rw [if_pos hb, if_pos hb]
  · rw [if_neg hb, if_neg hb, if_pos (by omega), if_pos (by omega)]


theorem impl_folS (xs : List S35) (hn : xs.length ≤ 1048576) (qt : Int) (k : Nat) (qo qs c x y : Int) (p : List S33) (F : Int → Int → List S33 → Int × Int × Int × List S33)
    (hp : p.length ≤ 5) (hq : p.any (sameSs qo qs) = false) (hk : xs.length + 20 < k)
    (hF : ∀ a b, (p ++ [(⟨qo, qs⟩ : S33)]).any (sameSs a b) = false → impl_FollowRequest.l0 (k + 1) xs a b qt c qo qs (p ++ [(⟨qo, qs⟩ : S33)]) = some (F a b (p ++ [(⟨qo, qs⟩ : S33)]))) :
    impl_FollowRequest.l0 (k + 2) xs qo qs qt c x y p = some (folS xs qt qo qs p F) := by
  have hl : (p ++ [(⟨qo, qs⟩ : S33)]).length = p.length + 1 := by simp
  have he : sameSite = sameSs := rfl
  unfold folS
  rw [impl_FollowRequest.l0, hasSite_eq _ p qo qs (by omega) (by omega), he, hq, Option.bind_some, if_neg (by simp), if_neg (by omega), if_pos (by omega), Option.bind_some, impl_ActionFor_eq _ xs _ _ _ hn (by omega), Option.bind_some]
  rw [show (if decM xs qo qs qt < 0 then (1 : Int) else (rd_T35 xs (decM xs qo qs qt)).f4) = actM xs qo qs qt from rfl]
  by_cases h1 : actM xs qo qs qt = 1
  · rw [if_pos h1, if_pos h1]
  · rw [if_neg h1, if_neg h1]
    by_cases h2 : actM xs qo qs qt = 2
    · rw [if_pos h2, if_pos h2]
    · rw [if_neg h2, if_neg h2]
      have h0 : ¬ decM xs qo qs qt < 0 := fun h => h1 (by unfold actM; rw [if_pos h])
      have hR := decM_range xs qo qs qt
      rw [impl_DecideRule_eq _ xs _ _ _ hn (by omega), Option.bind_some, if_pos (by omega), if_pos (by omega)]
      cases hh : (p ++ [(⟨qo, qs⟩ : S33)]).any (sameSs (rd_T35 xs (decM xs qo qs qt)).f5.f0 (rd_T35 xs (decM xs qo qs qt)).f5.f1)
      · rw [if_neg (by simp)]
        exact hF _ _ hh
      · rw [if_pos rfl, impl_FollowRequest.l0, hasSite_eq _ _ _ _ (by omega) (by omega), he, hh, Option.bind_some, if_pos rfl]
theorem impl_fol (xs : List S35) (hn : xs.length ≤ 1048576) (qt : Int) : ∀ (n k : Nat) (qo qs c x y : Int) (p : List S33), p.length + n = 5 → p.any (sameSs qo qs) = false → xs.length + 30 + 2 * n < k →
    impl_FollowRequest.l0 k xs qo qs qt c x y p = some (fol xs qt n qo qs p)
  | 0, k, qo, qs, c, x, y, p, hp, hq, hk => by
    obtain ⟨k, rfl⟩ : ∃ m, k = m + 2 := ⟨k - 2, by omega⟩
    refine impl_folS xs hn qt k qo qs c x y p _ (by omega) hq (by omega) fun a b hh => ?_
    have hl : (p ++ [(⟨qo, qs⟩ : S33)]).length = p.length + 1 := by simp
    have he : sameSite = sameSs := rfl
    rw [impl_FollowRequest.l0, hasSite_eq _ _ _ _ (by omega) (by omega), he, hh, Option.bind_some, if_neg (by simp), if_pos (by omega)]
  | n + 1, k, qo, qs, c, x, y, p, hp, hq, hk => by
    obtain ⟨k, rfl⟩ : ∃ m, k = m + 2 := ⟨k - 2, by omega⟩
    refine impl_folS xs hn qt k qo qs c x y p _ (by omega) hq (by omega) fun a b hh => ?_
    have hl : (p ++ [(⟨qo, qs⟩ : S33)]).length = p.length + 1 := by simp
    exact impl_fol xs hn qt n (k + 1) a b c qo qs _ (by omega) hh (by omega)
theorem impl_Follow_eq (k : Nat) (xs : List S35) (qo qs qt : Int) (hn : xs.length ≤ 1048576) (hk : xs.length + 50 < k) : impl_FollowRequest.f k xs qo qs qt = some (folM xs qo qs qt) := by
  unfold impl_FollowRequest.f folM
  rw [impl_req, Option.bind_some]
  by_cases h : isReq qo qs qt = true
  · rw [if_pos h, if_pos h]
    exact impl_fol xs hn qt 5 k qo qs 0 0 0 [] (by simp) (by simp) (by omega)
  · rw [if_neg h, if_neg h]

theorem eqSiteS_self (k : Nat) (xs : List S33) (hn : xs.length ≤ 1048576) (hk : xs.length < k) : laws_eqSiteS.f k xs xs = some true := by
  have L := loop_up (fun k (_ : Unit) i => laws_eqSiteS.l0 k xs xs i) xs.length (fun _ _ => true) (fun _ _ => True) (by omega)
    (fun k s i hi hI ih => by
      simp only [laws_eqSiteS.l0]
      rw [if_pos (by omega), if_pos (by omega), if_pos (by omega)]
      simp only [eqSite_self, Option.bind_some, if_true]
      exact ih () trivial)
    (fun k s hI => by
      simp only [laws_eqSiteS.l0]
      rw [if_neg nlt])
  unfold laws_eqSiteS.f
  rw [if_pos rfl]
  exact loop_from L k hk () trivial

theorem eqOut_self (k : Nat) (a b c : Int) (xs : List S33) (hn : xs.length ≤ 1048576) (hk : xs.length < k) : laws_eqOutcome.f k a b c xs a b c xs = some true := by
  unfold laws_eqOutcome.f
  simp only [eqSite_self, eqSiteS_self k xs hn hk, Option.bind_some, if_true]

def mkSite : Int → List S33 → List S33
  | _, [] => []
  | m, x :: xs => ⟨m, m + 1⟩ :: mkSite (m + 2) xs
theorem mkSite_len : ∀ (xs : List S33) (m : Int), (mkSite m xs).length = xs.length
  | [], _ => rfl
  | x :: xs, m => by simp [mkSite, mkSite_len xs]
theorem rdSite_set (xs : List S33) (i : Nat) (v : S33) (h : i < xs.length) : rd_T33 (xs.set i v) (i : Int) = v := by
  rw [rdSite_i _ i (by simpa using h)]; simp
set_option maxHeartbeats 4000000 in
theorem markSiteS_eq (k : Nat) (xs : List S33) (hn : xs.length ≤ 1048576) (hk : xs.length < k) : laws_markSiteS.f k xs 1 = some (1 + 2 * (xs.length : Int), mkSite 1 xs) := by
  have L := loop_up (fun k (s : List S33 × Int) i => laws_markSiteS.l0 k s.1 s.2 i) xs.length (fun s i => (s.2 + 2 * ((xs.length - i : Nat) : Int), s.1.take i ++ mkSite s.2 (s.1.drop i))) (fun s i => s.1.length = xs.length ∧ 1 ≤ s.2 ∧ s.2 ≤ 1 + 2 * i) (by omega)
    (fun k s i hi hI ih => by
      obtain ⟨s, m⟩ := s
      obtain ⟨h1, h2, h3⟩ := hI
      simp only at h1 h2 h3
      simp only [laws_markSiteS.l0]
      rw [if_pos (by omega), if_pos (by omega)]
      have hw : ∀ j : Int, 0 ≤ j → j ≤ 10 → wrap64 (m + j) = m + j := fun j _ _ => wr (by omega) (by omega)
      have hv : ∀ j : Int, 0 ≤ j → j ≤ 9 → wrap64 (m + j + 1) = m + (j + 1) := fun j _ _ => by rw [Int.add_assoc]; exact hw (j + 1) (by omega) (by omega)
      have w1 : wrap64 (m + 1) = m + 1 := hw 1 (by decide) (by decide)
      have w2 : wrap64 (m + 2) = m + 2 := hw 2 (by decide) (by decide)
      have v1 : wrap64 (m + 1 + 1) = m + 2 := hv 1 (by decide) (by decide)
      clear hw hv
      simp only [Option.bind_some, Int.toNat_natCast, w1, w2, v1]
      simp only [rdSite_set _ _ _ (show i < (s.set i _).length by simp; omega), rdSite_set _ _ _ (show i < s.length by omega), List.set_set, rdSite_i s i (by omega)]
      have hd := drop_at s i (by omega)
      have := ih (s.set i (let x := s[i]; ⟨m, m + 1⟩), m + 2) (by simp; omega)
      simp only at this
      rw [this]
      rw [take_set1 _ _ _ (by omega), hd]
      simp only [mkSite, List.append_assoc, List.singleton_append, List.cons_append, List.nil_append]
      congr 2
      · omega
      · simp [List.drop_set]
    )
    (fun k s hI => by
      simp only [laws_markSiteS.l0]
      rw [if_neg (by omega), List.drop_of_length_le (by omega), List.take_of_length_le (by omega)]
      simp [mkSite])
  unfold laws_markSiteS.f
  have := loop_from L k hk (xs, 1) (by simp)
  try simp only at this
  rw [this]
  simp


theorem markOut_eq (k : Nat) (a b c : Int) (xs : List S33) (hn : xs.length ≤ 1048576) (hk : xs.length < k) : laws_markOutcome.f k a b c xs 1 = some (1 + 2 * (xs.length : Int), mkSite 1 xs) := by
  unfold laws_markOutcome.f
  rw [markSiteS_eq k xs hn hk, Option.bind_some]

set_option maxHeartbeats 4000000 in
theorem heldSiteS_eq (k : Nat) (xs : List S33) (hn : xs.length ≤ 1048576) (hk : xs.length < k) : laws_heldSiteS.f k (mkSite 1 xs) 1 = some (1 + 2 * (xs.length : Int)) := by
  have hl := mkSite_len xs 1
  have L := loop_up (fun k (m : Int) i => laws_heldSiteS.l0 k (mkSite 1 xs) m i) xs.length (fun m i => m + 2 * ((xs.length - i : Nat) : Int)) (fun m i => 1 ≤ m ∧ m ≤ 1 + 2 * i ∧ (mkSite 1 xs).drop i = mkSite m (xs.drop i)) (by omega)
    (fun k m i hi hI ih => by
      obtain ⟨h2, h3, h4⟩ := hI
      have hd := drop_at (mkSite 1 xs) i (by omega)
      have hx := drop_at xs i hi
      have hr := rdSite_i (mkSite 1 xs) i (by omega)
      rw [hd, hx] at h4
      simp only [mkSite, List.cons.injEq] at h4
      obtain ⟨h5, h6⟩ := h4
      rw [h5] at hr
      simp only [laws_heldSiteS.l0]
      rw [if_pos (by omega), if_pos (by omega)]
      have hw : ∀ j : Int, 0 ≤ j → j ≤ 10 → wrap64 (m + j) = m + j := fun j _ _ => wr (by omega) (by omega)
      have hv : ∀ j : Int, 0 ≤ j → j ≤ 9 → wrap64 (m + j + 1) = m + (j + 1) := fun j _ _ => by rw [Int.add_assoc]; exact hw (j + 1) (by omega) (by omega)
      have w1 : wrap64 (m + 1) = m + 1 := hw 1 (by decide) (by decide)
      have w2 : wrap64 (m + 2) = m + 2 := hw 2 (by decide) (by decide)
      have v1 : wrap64 (m + 1 + 1) = m + 2 := hv 1 (by decide) (by decide)
      clear hw hv
      simp only [hr, w1, w2, v1, if_true, bne_self_eq_false, Bool.false_eq_true, if_false]
      have := ih (m + 2) ⟨by omega, by omega, h6⟩
      rw [this]
      congr 1
      omega)
    (fun k m hI => by
      simp only [laws_heldSiteS.l0]
      rw [if_neg (by omega)]
      simp)
  unfold laws_heldSiteS.f
  have := loop_from L k hk 1 ⟨by omega, by omega, by simp⟩
  try simp only at this
  rw [this]
  simp


theorem heldOut_eq (k : Nat) (a b c : Int) (xs : List S33) (hn : xs.length ≤ 1048576) (hk : xs.length < k) : laws_heldOutcome.f k a b c (mkSite 1 xs) 1 = some (1 + 2 * (xs.length : Int)) := by
  unfold laws_heldOutcome.f
  rw [heldSiteS_eq k xs hn hk, Option.bind_some, if_neg (by omega)]


theorem folS_len (xs : List S35) (qt qo qs : Int) (p : List S33) (c : Int → Int → List S33 → Int × Int × Int × List S33) (m : Nat) (hm : p.length + 1 ≤ m)
    (hc : ∀ a b, (c a b (p ++ [(⟨qo, qs⟩ : S33)])).2.2.2.length ≤ m) : (folS xs qt qo qs p c).2.2.2.length ≤ m := by
  have hl : (p ++ [(⟨qo, qs⟩ : S33)]).length = p.length + 1 := by simp
  unfold folS
  split
  · simp only; omega
  · split
    · simp only; omega
    · split
      · simp only; omega
      · exact hc _ _
theorem fol_len (xs : List S35) (qt : Int) : ∀ (n : Nat) (qo qs : Int) (p : List S33), (fol xs qt n qo qs p).2.2.2.length ≤ p.length + n + 1
  | 0, qo, qs, p => folS_len xs qt qo qs p _ _ (by omega) fun a b => by simp
  | n + 1, qo, qs, p => folS_len xs qt qo qs p _ _ (by omega) fun a b => by
    have := fol_len xs qt n a b (p ++ [(⟨qo, qs⟩ : S33)])
    simp only [List.length_append, List.length_singleton] at this
    omega
theorem folM_len (xs : List S35) (qo qs qt : Int) : (folM xs qo qs qt).2.2.2.length ≤ 6 := by
  unfold folM
  split
  · exact fol_len xs qt 5 qo qs []
  · simp
theorem FnExactFollowRequest (l : List S27) (qo qs qt : Int) (hm : l.length ≤ 9223372036854775807) {g : S27 → Prop} (hg : ∀ y ∈ l, g y) (_ : (Lit.int .i64 qo).wf = true) (_ : (Lit.int .i64 qs).wf = true) (_ : (Lit.int .i64 qt).wf = true) : ∃ k, laws_FnExactFollowRequest.f k l qo qs qt = some true := by
  refine ⟨l.length + 100, ?_⟩
  unfold laws_FnExactFollowRequest.f
  rw [szRule l 1048576 (by omega) (by omega) hm]
  simp only [Option.bind_some]
  by_cases hb : (1048576 : Int) < l.length
  · rw [if_pos hb, if_pos (by omega)]
  · rw [if_neg hb, if_neg (by omega)]
    have hl : l.length ≤ 1048576 := by omega
    have hc : (l.map cvRule).length = l.length := by simp
    have hf := folM_len (l.map cvRule) qo qs qt
    simp (disch := omega) only [toRuleS_eq, laws_toRequest.f, laws_toSite.f, impl_Follow_eq, spec_Follow_eq, Option.bind_some, eqRuleS_self, eqOut_self, markRuleS_eq, if_true]
    rw [if_neg (by omega)]
    simp (disch := omega) only [laws_FnExactFollowRequest.j0, Bool.not_true, Bool.false_eq_true, if_false, toRuleS_eq, laws_toRequest.f, laws_toSite.f, impl_Follow_eq, Option.bind_some, eqRuleS_self, eqOut_self, markOut_eq, heldOut_eq, if_true]
    rw [if_neg (by omega), if_neg (by omega)]

end Go.Proofs.Ytacgichgadoddaa.Pure
