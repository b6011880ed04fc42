/- The printed function of the law FnExactClashCount answers true, for all arguments, under no condition but that each whole number is one of its kind and that each slice has a length that fits. -/
import Derived.Test.YtbiolcbejlghmaaQCx58
namespace Go.Proofs.Ytbiolcbejlghmaa.Pure
open Go.RowKit Go.Proofs.Ytbiolcbejlghmaa.QC Go.Proofs.YtbiolcbejlghmaaW.PrintWords Go.Proofs.YtbiolcbejlghmaaW.PrintLast
set_option linter.unusedVariables false
set_option linter.unusedSimpArgs false
theorem wr {i : Int} (h0 : -9223372036854775808 ≤ i) (h1 : i ≤ 9223372036854775807) : wrap64 i = i := by unfold wrap64; omega
theorem beq_dec (a b : Int) : (a == b) = decide (a = b) := by by_cases h : a = b <;> simp [h]
theorem and_if (p : Prop) [Decidable p] (c : Bool) : (if p then some c else some false) = some (decide p && c) := by
  by_cases h : p <;> simp [h]
theorem or_if (p : Prop) [Decidable p] (c : Bool) : (if p then some true else some c) = some (decide p || c) := by
  by_cases h : p <;> simp [h]
def inR (a b c : Int) : Bool := decide (b ≤ a) && decide (a ≤ c)
def isPat (o s : Int) : Bool := inR o 0 9 && inR s (-1) 9
def isSit (o s : Int) : Bool := inR o 1 9 && inR s 0 9
def mtch (po ps o s : Int) : Bool := isPat po ps && (isSit o s && ((decide (po = 0) || decide (po = o)) && (decide (ps = -1) || decide (ps = s))))
def narr (po ps qo qs : Int) : Bool := isPat po ps && (isPat qo qs && ((decide (qo = 0) || decide (po = qo)) && (decide (qs = -1) || decide (ps = qs))))
def isGra (e po ps k f u : Int) : Bool := inR e 1 5 && (isPat po ps && (inR k 1 4 && (decide (0 ≤ f) && (decide (f ≤ u) && decide (u ≤ 10000)))))
def isLim (e po ps k : Int) : Bool := inR e 0 5 && (isPat po ps && inR k 0 4)
def covr (e po ps k f u : Int) (cl : Bool) (ext o s kind tick : Int) (ck : Bool) : Bool :=
  isGra e po ps k f u && (decide (e = ext) && (decide (k = kind) && (mtch po ps o s && (inR tick f u && (ck || !cl)))))
def isRul (e p po ps s a o b : Int) : Bool :=
  inR e 1 5 && (inR p 1 9 && (isPat po ps && (inR s 0 4 && ((decide (a = 1) || decide (a = 2)) && (decide (o = 0) && decide (b = 0)) || decide (a = 3) && isSit o b))))
def isReq (o s t : Int) : Bool := isSit o s && inR t 1 4
def appl (e p po ps s a o b qo qs qt : Int) : Bool := isRul e p po ps s a o b && (isReq qo qs qt && (mtch po ps qo qs && (decide (s = 0) || decide (s = qt))))
def isLen (e po ps k f u : Int) (cl : Bool) : Bool := isGra e po ps k f u && (decide (po ≠ 0) && (decide (ps ≠ -1) && ((decide (k = 1) || decide (k = 2)) && (decide (u = f + 5) && !cl))))
def isLab (x : Int) : Bool := inR x 0 1022 && decide (Int.tmod x 2 = 0)
def befo (ae ap aa ao ab be bp ba bo bb : Int) : Bool :=
  if ap = bp then (if aa = ba then (if ae = be then (if ao = bo then decide (ab < bb) else decide (ao < bo)) else decide (ae < be)) else decide (aa < ba)) else decide (bp < ap)
def within (e po ps k f u : Int) (cl : Bool) (e' po' ps' k' f' u' : Int) (cl' : Bool) : Bool :=
  isGra e po ps k f u && (isGra e' po' ps' k' f' u' && (decide (e = e') && (decide (k = k') && (narr po ps po' ps' && (decide (f' ≤ f) && (decide (u ≤ u') && (cl || !cl')))))))
theorem take_set1 {α : Type} (s : List α) (i : Nat) (v : α) (h : i < s.length) : (s.set i v).take (i + 1) = s.take i ++ [v] := by
  rw [List.take_succ_eq_append_getElem (by simpa using h), List.take_set, List.set_eq_of_length_le (by simp; omega)]
  simp
theorem loop_up {σ ρ : Type} (g : Nat → σ → Int → Option ρ) (n : Nat) (out : σ → Nat → ρ) (I : σ → Nat → Prop) (hn : n ≤ 9223372036854775806)
    (hstep : ∀ (k : Nat) (s : σ) (i : Nat), i < n → I s i → (∀ s', I s' (i + 1) → g k s' (wrap64 ((i : Int) + 1)) = some (out s' (i + 1))) → g (k + 1) s (i : Int) = some (out s i))
    (hend : ∀ (k : Nat) (s : σ), I s n → g (k + 1) s (n : Int) = some (out s n)) :
    ∀ (d k : Nat) (s : σ) (i : Nat), i + d = n → d < k → I s i → g k s (i : Int) = some (out s i) := by
  intro d
  induction d with
  | zero =>
    intro k s i hi hk hI
    obtain ⟨k, rfl⟩ : ∃ m, k = m + 1 := ⟨k - 1, by omega⟩
    obtain rfl : i = n := by omega
    exact hend k s hI
  | succ d ih =>
    intro k s i hi hk hI
    obtain ⟨k, rfl⟩ : ∃ m, k = m + 1 := ⟨k - 1, by omega⟩
    refine hstep k s i (by omega) hI fun s' hI' => ?_
    have := ih k s' (i + 1) (by omega) (by omega) hI'
    rw [wr (by omega) (by omega)]
    exact_mod_cast this
theorem loop_from {σ ρ : Type} {g : Nat → σ → Int → Option ρ} {n : Nat} {out : σ → Nat → ρ} {I : σ → Nat → Prop} (h : ∀ (d k : Nat) (s : σ) (i : Nat), i + d = n → d < k → I s i → g k s (i : Int) = some (out s i))
    (k : Nat) (hk : n < k) (s : σ) (hI : I s 0) : g k s 0 = some (out s 0) := by
  have := h n k s 0 (by omega) hk hI
  exact_mod_cast this
theorem drop_at {α : Type} (xs : List α) (i : Nat) (h : i < xs.length) : xs.drop i = xs[i] :: xs.drop (i + 1) := List.drop_eq_getElem_cons h

theorem nlt {n : Nat} : ¬ (n : Int) < (n : Int) := by omega
/-- where a list is copied element by element into a made one -/
theorem rd_at {α : Type} (z : α) (xs : List α) (i : Nat) (h : i < xs.length) : xs.getD (i : Int).toNat z = xs[i] := by simp [h]

theorem loop_upm {σ ρ : Type} (m : Nat) (g : Nat → σ → Int → Option ρ) (n : Nat) (out : σ → Nat → ρ) (I : σ → Nat → Prop) (hn : n ≤ 9223372036854775806)
    (hstep : ∀ (k : Nat) (s : σ) (i : Nat), m ≤ k → i < n → I s i → (∀ s', I s' (i + 1) → g k s' (wrap64 ((i : Int) + 1)) = some (out s' (i + 1))) → g (k + 1) s (i : Int) = some (out s i))
    (hend : ∀ (k : Nat) (s : σ), m ≤ k → I s n → g (k + 1) s (n : Int) = some (out s n)) :
    ∀ (d k : Nat) (s : σ) (i : Nat), i + d = n → d + m < k → I s i → g k s (i : Int) = some (out s i) := by
  intro d
  induction d with
  | zero =>
    intro k s i hi hk hI
    obtain ⟨k, rfl⟩ : ∃ m, k = m + 1 := ⟨k - 1, by omega⟩
    obtain rfl : i = n := by omega
    exact hend k s (by omega) hI
  | succ d ih =>
    intro k s i hi hk hI
    obtain ⟨k, rfl⟩ : ∃ m, k = m + 1 := ⟨k - 1, by omega⟩
    refine hstep k s i (by omega) (by omega) hI fun s' hI' => ?_
    have := ih k s' (i + 1) (by omega) (by omega) hI'
    rw [wr (by omega) (by omega)]
    exact_mod_cast this
theorem loop_fromm {σ ρ : Type} {m : Nat} {g : Nat → σ → Int → Option ρ} {n : Nat} {out : σ → Nat → ρ} {I : σ → Nat → Prop} (h : ∀ (d k : Nat) (s : σ) (i : Nat), i + d = n → d + m < k → I s i → g k s (i : Int) = some (out s i))
    (k : Nat) (hk : n + m < k) (s : σ) (hI : I s 0) : g k s 0 = some (out s 0) := by
  have := h n k s 0 (by omega) hk hI
  exact_mod_cast this
theorem loop_run {σ ρ : Type} (m : Nat) (g : Nat → σ → Int → Option ρ) (n : Nat) (out : σ → Nat → ρ) (I : σ → Nat → Prop) (hn : n ≤ 9223372036854775806)
    (hstep : ∀ (k : Nat) (s : σ) (i : Nat), m ≤ k → i < n → I s i → (∀ s', I s' (i + 1) → g k s' (wrap64 ((i : Int) + 1)) = some (out s' (i + 1))) → g (k + 1) s (i : Int) = some (out s i))
    (hend : ∀ (k : Nat) (s : σ), m ≤ k → I s n → g (k + 1) s (n : Int) = some (out s n)) (k : Nat) (hk : n + m < k) (s : σ) (hI : I s 0) : g k s 0 = some (out s 0) :=
  loop_fromm (loop_upm m g n out I hn hstep hend) k hk s hI
theorem if_and2 {α : Type} (a : Bool) (p : Prop) [Decidable p] (x y : α) : (if a = true then (if p then x else y) else y) = if (a && decide p) = true then x else y := by
  cases a <;> by_cases h : p <;> simp [h]

theorem if_nand {α : Type} (a b : Bool) (x y : α) : (if a = true then (if b = true then y else x) else x) = if (!(a && b)) = true then x else y := by
  cases a <;> cases b <;> simp
theorem rdPattern_l (xs : List S80) (i : Nat) (h : i < xs.length) : rd_T80 xs (i : Int) = xs[i] := rd_at _ xs i h
theorem rdSite_l (xs : List S24) (i : Nat) (h : i < xs.length) : rd_T24 xs (i : Int) = xs[i] := rd_at _ xs i h
theorem rdRule_l (xs : List S82) (i : Nat) (h : i < xs.length) : rd_T82 xs (i : Int) = xs[i] := rd_at _ xs i h
theorem rdPattern_i (xs : List S67) (i : Nat) (h : i < xs.length) : rd_T67 xs (i : Int) = xs[i] := rd_at _ xs i h
theorem rdSite_i (xs : List S31) (i : Nat) (h : i < xs.length) : rd_T31 xs (i : Int) = xs[i] := rd_at _ xs i h
theorem rdRule_i (xs : List S69) (i : Nat) (h : i < xs.length) : rd_T69 xs (i : Int) = xs[i] := rd_at _ xs i h
theorem rdGrant_l (xs : List S89) (i : Nat) (h : i < xs.length) : rd_T89 xs (i : Int) = xs[i] := rd_at _ xs i h
theorem rdGrant_i (xs : List S85) (i : Nat) (h : i < xs.length) : rd_T85 xs (i : Int) = xs[i] := rd_at _ xs i h
theorem rdLimit_l (xs : List S100) (i : Nat) (h : i < xs.length) : rd_T100 xs (i : Int) = xs[i] := rd_at _ xs i h
theorem rdLimit_i (xs : List S97) (i : Nat) (h : i < xs.length) : rd_T97 xs (i : Int) = xs[i] := rd_at _ xs i h

def appS (r : S69) (qo qs qt : Int) : Bool := appl r.f0 r.f1 r.f2.f0 r.f2.f1 r.f3 r.f4 r.f5.f0 r.f5.f1 qo qs qt
def befS (a b : S69) : Bool := befo a.f0 a.f1 a.f4 a.f5.f0 a.f5.f1 b.f0 b.f1 b.f4 b.f5.f0 b.f5.f1
def dFrom (xs : List S69) (qo qs qt : Int) : List S69 → Nat → Int → Int
  | [], _, b => b
  | r :: rs, i, b => dFrom xs qo qs qt rs (i + 1) (if (appS r qo qs qt && (decide (b < 0) || befS r (rd_T69 xs b))) = true then (i : Int) else b)
def decM (xs : List S69) (qo qs qt : Int) : Int := dFrom xs qo qs qt xs 0 (-1)
theorem dFrom_range (xs : List S69) (qo qs qt : Int) : ∀ (rs : List S69) (i : Nat) (b : Int), -1 ≤ b → b < i → -1 ≤ dFrom xs qo qs qt rs i b ∧ dFrom xs qo qs qt rs i b < i + rs.length
  | [], i, b, h0, h1 => by simp [dFrom]; omega
  | r :: rs, i, b, h0, h1 => by
    simp only [dFrom]
    have := dFrom_range xs qo qs qt rs (i + 1) (if (appS r qo qs qt && (decide (b < 0) || befS r (rd_T69 xs b))) = true then (i : Int) else b) (by split <;> omega) (by split <;> omega)
    simp only [List.length_cons]
    omega
theorem decM_range (xs : List S69) (qo qs qt : Int) : -1 ≤ decM xs qo qs qt ∧ decM xs qo qs qt < xs.length := by
  have := dFrom_range xs qo qs qt xs 0 (-1) (by omega) (by omega)
  simpa [decM] using this

def aFrom (qo qs qt : Int) : List S69 → Nat → List Int
  | [], _ => []
  | r :: rs, i => (if appS r qo qs qt = true then [(i : Int)] else []) ++ aFrom qo qs qt rs (i + 1)
theorem aFrom_mem (qo qs qt : Int) : ∀ (rs : List S69) (i : Nat) (x : Int), x ∈ aFrom qo qs qt rs i → (i : Int) ≤ x ∧ x < i + rs.length
  | [], i, x, h => by simp [aFrom] at h
  | r :: rs, i, x, h => by
    simp only [aFrom, List.mem_append] at h
    rcases h with h | h
    · split at h
      · simp at h; simp; omega
      · simp at h
    · have := aFrom_mem qo qs qt rs (i + 1) x h
      simp; omega
theorem aFrom_len (qo qs qt : Int) : ∀ (rs : List S69) (i : Nat), (aFrom qo qs qt rs i).length ≤ rs.length
  | [], i => by simp [aFrom]
  | r :: rs, i => by
    have := aFrom_len qo qs qt rs (i + 1)
    simp only [aFrom, List.length_append, List.length_cons]
    split <;> simp <;> omega

theorem spec_in (a b c : Int) : spec_l1In.f a b c = some (inR a b c) := by
  unfold spec_l1In.f inR; exact and_if _ _

theorem spec_pat (a b : Int) : spec_IsPattern.f a b = some (isPat a b) := by
  unfold spec_IsPattern.f isPat; simp only [spec_in, Option.bind_some]; cases inR a 0 9 <;> simp

theorem spec_sit (a b : Int) : spec_IsSite.f a b = some (isSit a b) := by
  unfold spec_IsSite.f isSit; simp only [spec_in, Option.bind_some]; cases inR a 1 9 <;> simp

theorem toSite_eq (a0 : Int) (a1 : Int) : laws_toSite.f a0 a1 = some (a0, a1) := by
  unfold laws_toSite.f; rfl

theorem impl_in (a b c : Int) : impl_InRange.f a b c = some (inR a b c) := by
  unfold impl_InRange.f inR; exact and_if _ _

theorem impl_pat (a b : Int) : impl_IsPattern.f a b = some (isPat a b) := by
  unfold impl_IsPattern.f isPat; simp only [impl_in, Option.bind_some]; cases inR a 0 9 <;> simp

theorem impl_sit (a b : Int) : impl_IsSite.f a b = some (isSit a b) := by
  unfold impl_IsSite.f isSit; simp only [impl_in, Option.bind_some]; cases inR a 1 9 <;> simp

theorem szRule (xs : List S82) (a : Int) (h0 : 0 ≤ a) (h1 : a ≤ 1048576) (hl : xs.length ≤ 9223372036854775807) : laws_szRuleS.f xs a = some (if a < xs.length then -1 else a - xs.length) := by
  unfold laws_szRuleS.f
  rw [wr (by omega) (by omega)]
  by_cases h : a < xs.length
  · rw [if_pos (by omega), if_pos h]
  · rw [if_neg (by omega), if_neg h]

theorem toRule_eq (a0 : Int) (a1 : Int) (a2 : Int) (a3 : Int) (a4 : Int) (a5 : Int) (a6 : Int) (a7 : Int) : laws_toRule.f a0 a1 a2 a3 a4 a5 a6 a7 = some (a0, a1, a2, a3, a4, a5, a6, a7) := by
  unfold laws_toRule.f laws_toPattern.f laws_toSite.f; rfl

def cvRule (r : S82) : S69 := ⟨r.f0, r.f1, ⟨r.f2.f0, r.f2.f1⟩, r.f3, r.f4, ⟨r.f5.f0, r.f5.f1⟩⟩
theorem toRuleS_eq (k : Nat) (xs : List S82) (hn : xs.length ≤ 1048576) (hk : xs.length < k) : laws_toRuleS.f k xs = some (xs.map cvRule) := by
  have L := loop_up (fun k (s : List S69) i => laws_toRuleS.l0 k xs s i) xs.length (fun s i => s.take i ++ (xs.drop i).map cvRule) (fun s _ => s.length = xs.length) (by omega)
    (fun k s i hi hI ih => by
      simp only [laws_toRuleS.l0]
      rw [if_pos (by omega), if_pos (by omega), rdRule_l xs i hi, toRule_eq]
      simp only [Option.bind_some]
      rw [if_pos (by omega), ih _ (by simp [hI]), Int.toNat_natCast, take_set1 _ _ _ (by omega), drop_at xs i hi, List.map_cons, List.append_assoc]
      rfl)
    (fun k s hI => by
      simp only [laws_toRuleS.l0]
      rw [if_neg nlt, List.drop_of_length_le (Nat.le_refl _), List.take_of_length_le (by omega)]
      simp)
  unfold laws_toRuleS.f
  rw [if_pos (by omega), if_pos (by omega)]
  rw [loop_from L k hk _ (by simp)]
  simp

theorem eqSite_self (a0 : Int) (a1 : Int) : laws_eqSite.f a0 a1 a0 a1 = some true := by
  simp [laws_eqSite.f]

theorem eqRule_self (a0 : Int) (a1 : Int) (a2 : Int) (a3 : Int) (a4 : Int) (a5 : Int) (a6 : Int) (a7 : Int) : laws_eqRule.f a0 a1 a2 a3 a4 a5 a6 a7 a0 a1 a2 a3 a4 a5 a6 a7 = some true := by
  simp [laws_eqRule.f, laws_eqPattern.f, laws_eqSite.f]

theorem eqRuleS_self (k : Nat) (xs : List S69) (hn : xs.length ≤ 1048576) (hk : xs.length < k) : laws_eqRuleS.f k xs xs = some true := by
  have L := loop_up (fun k (_ : Unit) i => laws_eqRuleS.l0 k xs xs i) xs.length (fun _ _ => true) (fun _ _ => True) (by omega)
    (fun k s i hi hI ih => by
      simp only [laws_eqRuleS.l0]
      rw [if_pos (by omega), if_pos (by omega), if_pos (by omega)]
      simp only [eqRule_self, Option.bind_some, if_true]
      exact ih () trivial)
    (fun k s hI => by
      simp only [laws_eqRuleS.l0]
      rw [if_neg nlt])
  unfold laws_eqRuleS.f
  rw [if_pos rfl]
  exact loop_from L k hk () trivial

theorem spec_mtch (a b c d : Int) : spec_MatchSite.f a b c d = some (mtch a b c d) := by
  unfold spec_MatchSite.f mtch; simp only [spec_pat, spec_sit, Option.bind_some]
  cases isPat a b <;> cases isSit c d <;> simp
  by_cases h1 : a = 0 <;> by_cases h2 : a = c <;> by_cases h3 : b = -1 <;> simp [h1, h2, h3] <;> simp [beq_dec]

theorem spec_rul (e p po ps s a o b : Int) : spec_IsRule.f e p po ps s a o b = some (isRul e p po ps s a o b) := by
  unfold spec_IsRule.f isRul; simp only [spec_in, spec_pat, Option.bind_some, spec_sit]
  cases inR e 1 5 <;> cases inR p 1 9 <;> cases isPat po ps <;> cases inR s 0 4 <;> simp
  by_cases h1 : a = 1
  · subst h1; simp [beq_dec, inR]
  · by_cases h2 : a = 2
    · subst h2; simp [beq_dec, inR]
    · by_cases h3 : a = 3
      · subst h3; cases isSit o b <;> simp [inR]
      · have : inR a 1 3 = false := by unfold inR; simp; omega
        simp [h1, h2, h3, this]

theorem spec_req (o s t : Int) : spec_IsRequest.f o s t = some (isReq o s t) := by
  unfold spec_IsRequest.f isReq; simp only [spec_sit, spec_in, Option.bind_some]
  cases isSit o s <;> simp

theorem impl_req (o s t : Int) : impl_IsRequest.f o s t = some (isReq o s t) := by
  unfold impl_IsRequest.f isReq; simp only [impl_sit, impl_in, Option.bind_some]
  cases isSit o s <;> simp

theorem spec_appl (e p po ps s a o b qo qs qt : Int) : spec_Applies.f e p po ps s a o b qo qs qt = some (appl e p po ps s a o b qo qs qt) := by
  unfold spec_Applies.f appl; simp only [spec_rul, spec_req, spec_mtch, Option.bind_some]
  cases isRul e p po ps s a o b <;> cases isReq qo qs qt <;> cases mtch po ps qo qs <;> by_cases h : s = 0 <;> simp [h, beq_dec]

theorem spec_AppliesTo_eq (k : Nat) (xs : List S69) (qo qs qt : Int) (hn : xs.length ≤ 1048576) (hk : xs.length + 0 < k) : spec_AppliesTo.f k xs qo qs qt = some (aFrom qo qs qt xs 0) := by
  have L := loop_run 0 (fun k (s : List Int) i => spec_AppliesTo.l0 k xs s i qo qs qt) xs.length (fun s i => s ++ aFrom qo qs qt (xs.drop i) i) (fun s i => s.length ≤ i) (by omega)
    (fun k s i hm hi hI ih => by
      have hd := drop_at xs i hi
      have hr := rdRule_i xs i hi
      generalize xs[i] = r at hd hr
      simp only [spec_AppliesTo.l0]
      rw [if_pos (by omega), if_pos (by omega), hr, hd]
      simp only [aFrom, spec_appl, Option.bind_some]
      have ih1 := ih (s ++ [(i : Int)]) (by simp; omega)
      have ih2 := ih s (by omega)
      try dsimp only at ih1 ih2
      unfold appS
      cases appl r.f0 r.f1 r.f2.f0 r.f2.f1 r.f3 r.f4 r.f5.f0 r.f5.f1 qo qs qt
      · simp only [Bool.false_eq_true, if_false, List.nil_append]; exact ih2
      · rw [if_pos rfl, if_pos (by omega), ih1, if_pos rfl, List.append_assoc])
    (fun k s hm hI => by
      simp only [spec_AppliesTo.l0]
      rw [if_neg nlt, List.drop_of_length_le (Nat.le_refl _)]
      simp [aFrom]) k hk [] (by simp)
  try dsimp only at L
  unfold spec_AppliesTo.f
  rw [L]
  simp

def clS (xs : List S69) (i j : Int) : Bool := decide ((rd_T69 xs i).f0 ≠ (rd_T69 xs j).f0) && decide ((rd_T69 xs i).f4 ≠ (rd_T69 xs j).f4)
theorem clS_symm (xs : List S69) (i j : Int) : clS xs i j = clS xs j i := by
  unfold clS; congr 1 <;> exact decide_eq_decide.mpr ⟨fun h e => h e.symm, fun h e => h e.symm⟩
theorem clS_self (xs : List S69) (i : Int) : clS xs i i = false := by simp [clS]
def clashM (xs : List S69) (L : List Int) : Bool := L.any fun i => L.any fun j => clS xs i j
theorem clash_half (xs : List S69) (L : List Int) : ((List.range L.length).any fun a => (List.range a).any fun b => clS xs (rd L a) (rd L b)) = clashM xs L := by
  rw [Bool.eq_iff_iff]
  unfold clashM
  simp only [List.any_eq_true, List.mem_range]
  constructor
  · rintro ⟨a, ha, b, hb, h⟩
    refine ⟨rd L a, ?_, rd L b, ?_, h⟩
    · have : rd L (a : Int) = L[a] := rd_at _ L a ha
      rw [this]; exact List.getElem_mem _
    · have : rd L (b : Int) = L[b] := rd_at _ L b (by omega)
      rw [this]; exact List.getElem_mem _
  · rintro ⟨i, hi, j, hj, h⟩
    obtain ⟨a, ha, rfl⟩ := List.mem_iff_getElem.1 hi
    obtain ⟨b, hb, rfl⟩ := List.mem_iff_getElem.1 hj
    have ea : rd L (a : Int) = L[a] := rd_at _ L a ha
    have eb : rd L (b : Int) = L[b] := rd_at _ L b hb
    rcases Nat.lt_trichotomy a b with hab | hab | hab
    · exact ⟨b, hb, a, hab, by rw [ea, eb, clS_symm]; exact h⟩
    · subst hab; rw [clS_self] at h; exact absurd h (by simp)
    · exact ⟨a, ha, b, hab, by rw [ea, eb]; exact h⟩
theorem range_any_succ (n : Nat) (f : Nat → Bool) : (List.range (n + 1)).any f = ((List.range n).any f || f n) := by
  rw [List.range_succ, List.any_append]; simp

theorem spec_Clash_in (xs : List S69) (L : List Int) (hL : ∀ x ∈ L, 0 ≤ x ∧ x < xs.length) (hn : L.length ≤ 1048576) (a : Nat) (ha : a < L.length) (R : Bool) (B : Nat)
    (H : ∀ k, B ≤ k → spec_ClashOf.l0 k xs L (wrap64 ((a : Int) + 1)) = some R) :
    ∀ (d k b : Nat), b + d = a → d + B < k → spec_ClashOf.l1 k xs L a b = some (((List.range d).any fun c => clS xs (rd L a) (rd L ((b + c : Nat) : Int))) || R) := by
  intro d
  induction d with
  | zero =>
    intro k b hb hk
    obtain ⟨k, rfl⟩ : ∃ m, k = m + 1 := ⟨k - 1, by omega⟩
    simp only [spec_ClashOf.l1]
    rw [if_neg (by omega), H k (by omega)]
    simp
  | succ d ih =>
    intro k b hb hk
    obtain ⟨k, rfl⟩ : ∃ m, k = m + 1 := ⟨k - 1, by omega⟩
    have ea : rd L (a : Int) = L[a] := rd_at _ L a ha
    have eb : rd L (b : Int) = L[b]'(by omega) := rd_at _ L b (by omega)
    have ha2 := hL L[a] (List.getElem_mem _)
    have hb2 := hL (L[b]'(by omega)) (List.getElem_mem _)
    rw [← ea] at ha2
    rw [← eb] at hb2
    have e := ih k (b + 1) (by omega) (by omega)
    simp only [spec_ClashOf.l1]
    rw [if_pos (by omega), if_pos (by omega), if_pos (by omega), if_pos ha2.1, if_pos ha2.2, if_pos (by omega), if_pos (by omega), if_pos hb2.1, if_pos hb2.2]
    rw [wr (by omega) (by omega), show ((b : Int) + 1) = ((b + 1 : Nat) : Int) by omega, e]
    have hs : ((List.range (d + 1)).any fun c => clS xs (rd L a) (rd L ((b + c : Nat) : Int))) = (clS xs (rd L a) (rd L b) || (List.range d).any fun c => clS xs (rd L a) (rd L ((b + 1 + c : Nat) : Int))) := by
      rw [List.range_succ_eq_map, List.any_cons, List.any_map]
      simp only [Nat.add_zero]
      congr 2
      funext c
      simp only [Function.comp]
      rw [show b + (c + 1) = b + 1 + c by omega]
    rw [hs]
    unfold clS
    by_cases h1 : (rd_T69 xs (rd L a)).f0 = (rd_T69 xs (rd L b)).f0 <;> by_cases h2 : (rd_T69 xs (rd L a)).f4 = (rd_T69 xs (rd L b)).f4 <;> simp [h1, h2]
theorem spec_Clash_out (xs : List S69) (L : List Int) (hL : ∀ x ∈ L, 0 ≤ x ∧ x < xs.length) (hn : L.length ≤ 1048576) :
    ∀ (d k a : Nat), a + d = L.length → d * (L.length + 2) < k → spec_ClashOf.l0 k xs L a = some ((List.range d).any fun c => (List.range (a + c)).any fun b => clS xs (rd L ((a + c : Nat) : Int)) (rd L b)) := by
  intro d
  induction d with
  | zero =>
    intro k a ha hk
    obtain ⟨k, rfl⟩ : ∃ m, k = m + 1 := ⟨k - 1, by omega⟩
    simp only [spec_ClashOf.l0]
    rw [if_neg (by omega)]
    rfl
  | succ d ih =>
    intro k a ha hk
    obtain ⟨k, rfl⟩ : ∃ m, k = m + 1 := ⟨k - 1, by omega⟩
    have hm : (d + 1) * (L.length + 2) = d * (L.length + 2) + (L.length + 2) := Nat.succ_mul _ _
    simp only [spec_ClashOf.l0]
    rw [if_pos (by omega)]
    have := spec_Clash_in xs L hL hn a (by omega) _ (d * (L.length + 2) + 1) (fun k' hk' => by rw [wr (by omega) (by omega), show ((a : Int) + 1) = ((a + 1 : Nat) : Int) by omega]; exact ih k' (a + 1) (by omega) (by omega)) a k 0 (by omega) (by omega)
    rw [show ((0 : Nat) : Int) = 0 from rfl] at this
    rw [this]
    simp only [Nat.zero_add]
    rw [List.range_succ_eq_map, List.any_cons, List.any_map]
    simp only [Nat.add_zero]
    congr 2
    congr 1
    funext c
    simp only [Function.comp]
    rw [show a + 1 + c = a + (c + 1) by omega]
theorem spec_ClashOf_eq (k : Nat) (xs : List S69) (qo qs qt : Int) (hn : xs.length ≤ 1048576) (hk : (xs.length + 1) * (xs.length + 2) + 10 < k) : spec_ClashOf.f k xs qo qs qt = some (clashM xs (aFrom qo qs qt xs 0)) := by
  have hl := aFrom_len qo qs qt xs 0
  have h1 : xs.length ≤ (xs.length + 1) * (xs.length + 2) := by rw [Nat.add_mul, Nat.one_mul]; omega
  have h2 : (aFrom qo qs qt xs 0).length * ((aFrom qo qs qt xs 0).length + 2) ≤ (xs.length + 1) * (xs.length + 2) := Nat.mul_le_mul (by omega) (by omega)
  unfold spec_ClashOf.f
  rw [spec_AppliesTo_eq k xs qo qs qt hn (by omega)]
  simp only [Option.bind_some]
  have := spec_Clash_out xs (aFrom qo qs qt xs 0) (fun x hx => by have := aFrom_mem qo qs qt xs 0 x hx; omega) (by omega) (aFrom qo qs qt xs 0).length k 0 (by omega) (by omega)
  rw [show ((0 : Nat) : Int) = 0 from rfl] at this
  rw [this, ← clash_half]
  simp only [Nat.zero_add]


def cl (xs : List S69) (o : Int) (s t : Nat) : Nat := (clashM xs (aFrom o (s : Int) (t : Int) xs 0)).toNat
theorem cl_le (xs : List S69) (o : Int) (s t : Nat) : cl xs o s t ≤ 1 := Bool.toNat_le _
def M1 (n : Nat) : Nat := (n + 1) * (n + 2) + 10
theorem spec_cc (xs : List S69) (o : Int) (ho : inR o 1 9 = true) (hn : xs.length ≤ 1048576) :
    ∀ (d k n c : Nat), n + d = 40 → c + d ≤ 1000 → 2 * d + M1 xs.length + 3 < k → spec_ClashCount.l0 k xs o (c : Int) (n : Int) = some ((c + ((List.range' n d).map fun n => cl xs o (n % 10) (1 + n / 10)).sum : Nat) : Int) := by
  intro d
  induction d with
  | zero =>
    intro k n c h1 h2 h3
    obtain ⟨k, rfl⟩ : ∃ m, k = m + 2 := ⟨k - 2, by omega⟩
    simp only [spec_ClashCount.l0, spec_ClashCount.j1]
    rw [if_neg (by omega)]
    rfl
  | succ d ih =>
    intro k n c h1 h2 h3
    obtain ⟨k, rfl⟩ : ∃ m, k = m + 2 := ⟨k - 2, by omega⟩
    have e1 : Int.tmod (n : Int) 10 = ((n % 10 : Nat) : Int) := rfl
    have e2 : Int.tdiv (n : Int) 10 = ((n / 10 : Nat) : Int) := rfl
    have e3 : (1 : Int) + ((n / 10 : Nat) : Int) = ((1 + n / 10 : Nat) : Int) := by omega
    simp only [spec_ClashCount.l0, spec_ClashCount.j1]
    rw [if_pos (by omega), spec_in, ho, Option.bind_some, if_pos rfl, e1, e2, wr (i := ((n / 10 : Nat) : Int)) (by omega) (by omega), e3, wr (i := ((1 + n / 10 : Nat) : Int)) (by omega) (by omega),
      spec_ClashOf_eq k xs o _ _ hn (by unfold M1 at h3; omega), Option.bind_some, wr (i := (n : Int) + 1) (by omega) (by omega), wr (i := (c : Int) + 1) (by omega) (by omega)]
    have hs : ((List.range' n (d + 1)).map fun n => cl xs o (n % 10) (1 + n / 10)).sum = cl xs o (n % 10) (1 + n / 10) + ((List.range' (n + 1) d).map fun n => cl xs o (n % 10) (1 + n / 10)).sum := by
      simp [List.range'_succ]
    rw [hs]
    have hc := cl_le xs o (n % 10) (1 + n / 10)
    have A := ih k (n + 1) (c + cl xs o (n % 10) (1 + n / 10)) (by omega) (by omega) (by omega)
    rw [Nat.add_assoc] at A
    rw [← A]
    unfold cl
    cases clashM xs (aFrom o ((n % 10 : Nat) : Int) ((1 + n / 10 : Nat) : Int) xs 0) <;> rfl

theorem impl_mtch (a b c d : Int) : impl_MatchSite.f a b c d = some (mtch a b c d) := by
  unfold impl_MatchSite.f mtch; simp only [impl_pat, impl_sit, Option.bind_some]
  cases isPat a b <;> cases isSit c d <;> simp
  by_cases h1 : a = 0 <;> by_cases h2 : a = c <;> by_cases h3 : b = -1 <;> simp [h1, h2, h3] <;> simp [beq_dec]

theorem impl_rul (n : Nat) (e p po ps s a o b : Int) : impl_IsRule.f (n + 2) e p po ps s a o b = some (isRul e p po ps s a o b) := by
  unfold impl_IsRule.f isRul; simp only [impl_in, impl_pat, Option.bind_some, impl_IsRule.j0, impl_IsRule.j1, impl_sit]
  cases inR e 1 5 <;> cases inR p 1 9 <;> cases isPat po ps <;> cases inR s 0 4 <;> simp
  by_cases h1 : a = 1
  · subst h1; simp [beq_dec]
  · by_cases h2 : a = 2
    · subst h2; simp [beq_dec]
    · by_cases h3 : a = 3
      · subst h3; simp
      · simp [h1, h2, h3]

theorem impl_appl (n : Nat) (e p po ps s a o b qo qs qt : Int) : impl_Applies.f (n + 2) e p po ps s a o b qo qs qt = some (appl e p po ps s a o b qo qs qt) := by
  unfold impl_Applies.f appl; simp only [impl_rul, impl_req, impl_mtch, Option.bind_some]
  cases isRul e p po ps s a o b <;> cases isReq qo qs qt <;> cases mtch po ps qo qs <;> by_cases h : s = 0 <;> simp [h, beq_dec]

theorem impl_AppliesTo_eq (k : Nat) (xs : List S69) (qo qs qt : Int) (hn : xs.length ≤ 1048576) (hk : xs.length + 2 < k) : impl_AppliesTo.f k xs qo qs qt = some (aFrom qo qs qt xs 0) := by
  have L := loop_run 2 (fun k (s : List Int) i => impl_AppliesTo.l0 k s xs (xs.length : Int) i qo qs qt) xs.length (fun s i => s ++ aFrom qo qs qt (xs.drop i) i) (fun s i => s.length ≤ i) (by omega)
    (fun k s i hm hi hI ih => by
      have hd := drop_at xs i hi
      have hr := rdRule_i xs i hi
      generalize xs[i] = r at hd hr
      simp only [impl_AppliesTo.l0]
      obtain ⟨k, rfl⟩ : ∃ z, k = z + 2 := ⟨k - 2, by omega⟩
      rw [if_pos (by omega), if_pos (by omega), if_pos (by omega), hr, hd]
      simp only [aFrom, impl_appl k, Option.bind_some]
      have ih1 := ih (s ++ [(i : Int)]) (by simp; omega)
      have ih2 := ih s (by omega)
      try dsimp only at ih1 ih2
      unfold appS
      cases appl r.f0 r.f1 r.f2.f0 r.f2.f1 r.f3 r.f4 r.f5.f0 r.f5.f1 qo qs qt
      · simp only [Bool.false_eq_true, if_false, List.nil_append]; exact ih2
      · rw [if_pos rfl, if_pos (by omega), ih1, if_pos rfl, List.append_assoc])
    (fun k s hm hI => by
      simp only [impl_AppliesTo.l0]
      rw [if_neg nlt, List.drop_of_length_le (Nat.le_refl _)]
      simp [aFrom]) k hk [] (by simp)
  try dsimp only at L
  unfold impl_AppliesTo.f
  rw [L]
  simp

theorem impl_Clash_in (xs : List S69) (L : List Int) (hL : ∀ x ∈ L, 0 ≤ x ∧ x < xs.length) (hn : L.length ≤ 1048576) (v : Int) (hv : 0 ≤ v ∧ v < xs.length) (a : Int) (R : Bool) (B : Nat)
    (H : ∀ k, B ≤ k → impl_ClashOf.l0 k xs L L (L.length : Int) (wrap64 (a + 1)) = some R) :
    ∀ (d k b : Nat), b + d = L.length → d + B < k → impl_ClashOf.l1 k xs L v L (L.length : Int) a L (L.length : Int) b = some ((L.drop b).any (fun j => clS xs v j) || R) := by
  intro d
  induction d with
  | zero =>
    intro k b hb hk
    obtain ⟨k, rfl⟩ : ∃ m, k = m + 1 := ⟨k - 1, by omega⟩
    simp only [impl_ClashOf.l1]
    rw [if_neg (by omega), H k (by omega), List.drop_of_length_le (by omega)]
    simp
  | succ d ih =>
    intro k b hb hk
    obtain ⟨k, rfl⟩ : ∃ m, k = m + 1 := ⟨k - 1, by omega⟩
    have eb : rd L (b : Int) = L[b]'(by omega) := rd_at _ L b (by omega)
    have hb2 := hL (L[b]'(by omega)) (List.getElem_mem _)
    have hd := drop_at L b (by omega)
    rw [← eb] at hb2 hd
    have e := ih k (b + 1) (by omega) (by omega)
    simp only [impl_ClashOf.l1]
    rw [if_pos (by omega), if_pos (by omega), if_pos (by omega), if_pos hv.1, if_pos hv.2, if_pos hb2.1, if_pos hb2.2]
    rw [wr (by omega) (by omega), show ((b : Int) + 1) = ((b + 1 : Nat) : Int) by omega, e, hd, List.any_cons]
    unfold clS
    by_cases h1 : (rd_T69 xs v).f0 = (rd_T69 xs (rd L b)).f0 <;> by_cases h2 : (rd_T69 xs v).f4 = (rd_T69 xs (rd L b)).f4 <;> simp [h1, h2]
theorem impl_Clash_out (xs : List S69) (L : List Int) (hL : ∀ x ∈ L, 0 ≤ x ∧ x < xs.length) (hn : L.length ≤ 1048576) :
    ∀ (d k a : Nat), a + d = L.length → d * (L.length + 2) < k → impl_ClashOf.l0 k xs L L (L.length : Int) a = some ((L.drop a).any fun i => L.any fun j => clS xs i j) := by
  intro d
  induction d with
  | zero =>
    intro k a ha hk
    obtain ⟨k, rfl⟩ : ∃ m, k = m + 1 := ⟨k - 1, by omega⟩
    simp only [impl_ClashOf.l0]
    rw [if_neg (by omega), List.drop_of_length_le (by omega)]
    rfl
  | succ d ih =>
    intro k a ha hk
    obtain ⟨k, rfl⟩ : ∃ m, k = m + 1 := ⟨k - 1, by omega⟩
    have hm : (d + 1) * (L.length + 2) = d * (L.length + 2) + (L.length + 2) := Nat.succ_mul _ _
    have ea : rd L (a : Int) = L[a]'(by omega) := rd_at _ L a (by omega)
    have ha2 := hL (L[a]'(by omega)) (List.getElem_mem _)
    have hd := drop_at L a (by omega)
    rw [← ea] at ha2 hd
    simp only [impl_ClashOf.l0]
    rw [if_pos (by omega), if_pos (by omega), if_pos (by omega)]
    have := impl_Clash_in xs L hL hn (rd L a) ha2 a _ (d * (L.length + 2) + 1) (fun k' hk' => by rw [wr (by omega) (by omega), show ((a : Int) + 1) = ((a + 1 : Nat) : Int) by omega]; exact ih k' (a + 1) (by omega) (by omega)) L.length k 0 (by omega) (by omega)
    rw [show ((0 : Nat) : Int) = 0 from rfl] at this
    rw [this, hd, List.any_cons, List.drop_zero]
theorem impl_ClashOf_eq (k : Nat) (xs : List S69) (qo qs qt : Int) (hn : xs.length ≤ 1048576) (hk : (xs.length + 1) * (xs.length + 2) + 10 < k) : impl_ClashOf.f k xs qo qs qt = some (clashM xs (aFrom qo qs qt xs 0)) := by
  have hl := aFrom_len qo qs qt xs 0
  have h1 : xs.length ≤ (xs.length + 1) * (xs.length + 2) := by rw [Nat.add_mul, Nat.one_mul]; omega
  have h2 : (aFrom qo qs qt xs 0).length * ((aFrom qo qs qt xs 0).length + 2) ≤ (xs.length + 1) * (xs.length + 2) := Nat.mul_le_mul (by omega) (by omega)
  unfold impl_ClashOf.f
  rw [impl_AppliesTo_eq k xs qo qs qt hn (by omega)]
  simp only [Option.bind_some]
  have := impl_Clash_out xs (aFrom qo qs qt xs 0) (fun x hx => by have := aFrom_mem qo qs qt xs 0 x hx; omega) (by omega) (aFrom qo qs qt xs 0).length k 0 (by omega) (by omega)
  rw [show ((0 : Nat) : Int) = 0 from rfl] at this
  rw [this, List.drop_zero]
  rfl


theorem impl_cc_in (xs : List S69) (o : Int) (hn : xs.length ≤ 1048576) (s : Nat) (hs : s < 10) (F : Nat) (R : Option Int) :
    ∀ (d k t c : Nat), t + d = 5 → c + d ≤ 1000 → d + F + M1 xs.length + 3 < k → (∀ k', F + M1 xs.length < k' → impl_ClashCount.l0 k' xs o ((c + ((List.range' t d).map (cl xs o s)).sum : Nat) : Int) ((s + 1 : Nat) : Int) = R) →
    impl_ClashCount.l1 k xs o (c : Int) (s : Int) (t : Int) (s : Int) = R := by
  intro d
  induction d with
  | zero =>
    intro k t c h1 h2 h3 hR
    obtain ⟨k, rfl⟩ : ∃ m, k = m + 1 := ⟨k - 1, by omega⟩
    simp only [impl_ClashCount.l1]
    rw [if_neg (by omega), wr (by omega) (by omega)]
    exact hR k (by omega)
  | succ d ih =>
    intro k t c h1 h2 h3 hR
    obtain ⟨k, rfl⟩ : ∃ m, k = m + 1 := ⟨k - 1, by omega⟩
    simp only [impl_ClashCount.l1]
    rw [if_pos (by omega), impl_ClashOf_eq k xs o _ _ hn (by unfold M1 at h3; omega), Option.bind_some, wr (i := (t : Int) + 1) (by omega) (by omega), wr (i := (c : Int) + 1) (by omega) (by omega)]
    have hs2 : ((List.range' t (d + 1)).map (cl xs o s)).sum = cl xs o s t + ((List.range' (t + 1) d).map (cl xs o s)).sum := by
      simp [List.range'_succ]
    rw [hs2] at hR
    have hc := cl_le xs o s t
    have A := ih k (t + 1) (c + cl xs o s t) (by omega) (by omega) (by omega) (fun k' hk' => by rw [Nat.add_assoc]; exact hR k' hk')
    rw [← A]
    unfold cl
    cases clashM xs (aFrom o (s : Int) (t : Int) xs 0) <;> rfl
theorem impl_cc (xs : List S69) (o : Int) (hn : xs.length ≤ 1048576) :
    ∀ (d k s c : Nat), s + d = 10 → c + 4 * d ≤ 900 → d * 10 + M1 xs.length + 3 < k → impl_ClashCount.l0 k xs o (c : Int) (s : Int) = some ((c + ((List.range' s d).map fun s => ((List.range' 1 4).map (cl xs o s)).sum).sum : Nat) : Int) := by
  intro d
  induction d with
  | zero =>
    intro k s c h1 h2 h3
    obtain ⟨k, rfl⟩ : ∃ m, k = m + 1 := ⟨k - 1, by omega⟩
    simp only [impl_ClashCount.l0]
    rw [if_neg (by omega)]
    rfl
  | succ d ih =>
    intro k s c h1 h2 h3
    obtain ⟨k, rfl⟩ : ∃ m, k = m + 1 := ⟨k - 1, by omega⟩
    simp only [impl_ClashCount.l0]
    rw [if_pos (by omega)]
    have hs2 : ((List.range' s (d + 1)).map fun s => ((List.range' 1 4).map (cl xs o s)).sum).sum = ((List.range' 1 4).map (cl xs o s)).sum + ((List.range' (s + 1) d).map fun s => ((List.range' 1 4).map (cl xs o s)).sum).sum := by
      rw [show List.range' s (d + 1) = s :: List.range' (s + 1) d from rfl, List.map_cons, List.sum_cons]
    have hb : ((List.range' 1 4).map (cl xs o s)).sum ≤ 4 := by
      have a := cl_le xs o s 1; have b := cl_le xs o s 2; have c := cl_le xs o s 3; have d := cl_le xs o s 4
      simp [List.range']; omega
    rw [hs2, ← Nat.add_assoc]
    exact impl_cc_in xs o hn s (by omega) (d * 10 + 3) _ 4 k 1 c (by omega) (by omega) (by omega) fun k' hk' => ih k' (s + 1) _ (by omega) (by omega) (by omega)
set_option maxHeartbeats 4000000 in
theorem cc_re (g : Nat → Nat → Nat) : ((List.range' 0 40).map fun n => g (n % 10) (1 + n / 10)).sum = ((List.range' 0 10).map fun s => ((List.range' 1 4).map (g s)).sum).sum := by
  simp only [List.range', List.map_cons, List.map_nil, List.sum_cons, List.sum_nil, Nat.reduceAdd, Nat.reduceMod, Nat.reduceDiv]
  omega
theorem cc_same (k : Nat) (xs : List S69) (o : Int) (hn : xs.length ≤ 1048576) (hk : M1 xs.length + 200 < k) : ∃ z, spec_ClashCount.f k xs o = some z ∧ impl_ClashCount.f k xs o = some z := by
  unfold spec_ClashCount.f impl_ClashCount.f
  rw [impl_in, Option.bind_some]
  by_cases ho : inR o 1 9 = true
  · rw [if_pos ho]
    refine ⟨_, spec_cc xs o ho hn 40 k 0 0 (by omega) (by omega) (by omega), ?_⟩
    rw [cc_re]
    exact impl_cc xs o hn 10 k 0 0 (by omega) (by omega) (by omega)
  · rw [if_neg ho]
    refine ⟨0, ?_, rfl⟩
    obtain ⟨k, rfl⟩ : ∃ m, k = m + 2 := ⟨k - 2, by omega⟩
    simp only [spec_ClashCount.l0, spec_ClashCount.j1]
    rw [if_pos (by decide), spec_in, Option.bind_some, if_neg ho]


theorem FnExactClashCount (l : List S82) (o : Int) (hm : l.length ≤ 9223372036854775807) {g : S82 → Prop} (hg : ∀ y ∈ l, g y) (_ : (Lit.int .i64 o).wf = true) : ∃ k, laws_FnExactClashCount.f k l o = some true := by
  refine ⟨M1 l.length + l.length + 300, ?_⟩
  unfold laws_FnExactClashCount.f
  rw [szRule l 1048576 (by omega) (by omega) hm]
  simp only [Option.bind_some]
  by_cases hb : (1048576 : Int) < l.length
  · rw [if_pos hb, if_pos (by omega)]
  · rw [if_neg hb, if_neg (by omega)]
    have hl : l.length ≤ 1048576 := by omega
    have hc : (l.map cvRule).length = l.length := by simp
    obtain ⟨z, h1, h2⟩ := cc_same (M1 l.length + l.length + 300) (l.map cvRule) o (by omega) (by rw [hc]; omega)
    simp (disch := omega) only [toRuleS_eq, h1, h2, Option.bind_some, eqRuleS_self, if_true]

end Go.Proofs.Ytbiolcbejlghmaa.Pure
