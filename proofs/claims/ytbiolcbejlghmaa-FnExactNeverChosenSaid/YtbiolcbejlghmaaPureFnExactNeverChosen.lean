/- The printed function of the law FnExactNeverChosen answers true, for all arguments, under no condition but that each whole number is one of its kind and that each slice has a length that fits. -/
import Derived.Test.YtbiolcbejlghmaaQCx107
namespace Go.Proofs.Ytbiolcbejlghmaa.Pure
open Go.RowKit Go.Proofs.Ytbiolcbejlghmaa.QC Go.Proofs.YtbiolcbejlghmaaW.PrintWords Go.Proofs.YtbiolcbejlghmaaW.PrintLast
set_option linter.unusedVariables false
set_option linter.unusedSimpArgs false
theorem wr {i : Int} (h0 : -9223372036854775808 ≤ i) (h1 : i ≤ 9223372036854775807) : wrap64 i = i := by unfold wrap64; omega
theorem beq_dec (a b : Int) : (a == b) = decide (a = b) := by by_cases h : a = b <;> simp [h]
theorem and_if (p : Prop) [Decidable p] (c : Bool) : (if p then some c else some false) = some (decide p && c) := by
  by_cases h : p <;> simp [h]
theorem or_if (p : Prop) [Decidable p] (c : Bool) : (if p then some true else some c) = some (decide p || c) := by
  by_cases h : p <;> simp [h]
def inR (a b c : Int) : Bool := decide (b ≤ a) && decide (a ≤ c)
def isPat (o s : Int) : Bool := inR o 0 9 && inR s (-1) 9
def isSit (o s : Int) : Bool := inR o 1 9 && inR s 0 9
def mtch (po ps o s : Int) : Bool := isPat po ps && (isSit o s && ((decide (po = 0) || decide (po = o)) && (decide (ps = -1) || decide (ps = s))))
def narr (po ps qo qs : Int) : Bool := isPat po ps && (isPat qo qs && ((decide (qo = 0) || decide (po = qo)) && (decide (qs = -1) || decide (ps = qs))))
def isGra (e po ps k f u : Int) : Bool := inR e 1 5 && (isPat po ps && (inR k 1 4 && (decide (0 ≤ f) && (decide (f ≤ u) && decide (u ≤ 10000)))))
def isLim (e po ps k : Int) : Bool := inR e 0 5 && (isPat po ps && inR k 0 4)
def covr (e po ps k f u : Int) (cl : Bool) (ext o s kind tick : Int) (ck : Bool) : Bool :=
  isGra e po ps k f u && (decide (e = ext) && (decide (k = kind) && (mtch po ps o s && (inR tick f u && (ck || !cl)))))
def isRul (e p po ps s a o b : Int) : Bool :=
  inR e 1 5 && (inR p 1 9 && (isPat po ps && (inR s 0 4 && ((decide (a = 1) || decide (a = 2)) && (decide (o = 0) && decide (b = 0)) || decide (a = 3) && isSit o b))))
def isReq (o s t : Int) : Bool := isSit o s && inR t 1 4
def appl (e p po ps s a o b qo qs qt : Int) : Bool := isRul e p po ps s a o b && (isReq qo qs qt && (mtch po ps qo qs && (decide (s = 0) || decide (s = qt))))
def isLen (e po ps k f u : Int) (cl : Bool) : Bool := isGra e po ps k f u && (decide (po ≠ 0) && (decide (ps ≠ -1) && ((decide (k = 1) || decide (k = 2)) && (decide (u = f + 5) && !cl))))
def isLab (x : Int) : Bool := inR x 0 1022 && decide (Int.tmod x 2 = 0)
def befo (ae ap aa ao ab be bp ba bo bb : Int) : Bool :=
  if ap = bp then (if aa = ba then (if ae = be then (if ao = bo then decide (ab < bb) else decide (ao < bo)) else decide (ae < be)) else decide (aa < ba)) else decide (bp < ap)
def within (e po ps k f u : Int) (cl : Bool) (e' po' ps' k' f' u' : Int) (cl' : Bool) : Bool :=
  isGra e po ps k f u && (isGra e' po' ps' k' f' u' && (decide (e = e') && (decide (k = k') && (narr po ps po' ps' && (decide (f' ≤ f) && (decide (u ≤ u') && (cl || !cl')))))))
theorem take_set1 {α : Type} (s : List α) (i : Nat) (v : α) (h : i < s.length) : (s.set i v).take (i + 1) = s.take i ++ [v] := by
  rw [List.take_succ_eq_append_getElem (by simpa using h), List.take_set, List.set_eq_of_length_le (by simp; omega)]
  simp
theorem loop_up {σ ρ : Type} (g : Nat → σ → Int → Option ρ) (n : Nat) (out : σ → Nat → ρ) (I : σ → Nat → Prop) (hn : n ≤ 9223372036854775806)
    (hstep : ∀ (k : Nat) (s : σ) (i : Nat), i < n → I s i → (∀ s', I s' (i + 1) → g k s' (wrap64 ((i : Int) + 1)) = some (out s' (i + 1))) → g (k + 1) s (i : Int) = some (out s i))
    (hend : ∀ (k : Nat) (s : σ), I s n → g (k + 1) s (n : Int) = some (out s n)) :
    ∀ (d k : Nat) (s : σ) (i : Nat), i + d = n → d < k → I s i → g k s (i : Int) = some (out s i) := by
  intro d
  induction d with
  | zero =>
    intro k s i hi hk hI
    obtain ⟨k, rfl⟩ : ∃ m, k = m + 1 := ⟨k - 1, by omega⟩
    obtain rfl : i = n := by omega
    exact hend k s hI
  | succ d ih =>
    intro k s i hi hk hI
    obtain ⟨k, rfl⟩ : ∃ m, k = m + 1 := ⟨k - 1, by omega⟩
    refine hstep k s i (by omega) hI fun s' hI' => ?_
    have := ih k s' (i + 1) (by omega) (by omega) hI'
    rw [wr (by omega) (by omega)]
    exact_mod_cast this
theorem loop_from {σ ρ : Type} {g : Nat → σ → Int → Option ρ} {n : Nat} {out : σ → Nat → ρ} {I : σ → Nat → Prop} (h : ∀ (d k : Nat) (s : σ) (i : Nat), i + d = n → d < k → I s i → g k s (i : Int) = some (out s i))
    (k : Nat) (hk : n < k) (s : σ) (hI : I s 0) : g k s 0 = some (out s 0) := by
  have := h n k s 0 (by omega) hk hI
  exact_mod_cast this
theorem drop_at {α : Type} (xs : List α) (i : Nat) (h : i < xs.length) : xs.drop i = xs[i] :: xs.drop (i + 1) := List.drop_eq_getElem_cons h

theorem nlt {n : Nat} : ¬ (n : Int) < (n : Int) := by omega
/-- where a list is copied element by element into a made one -/
theorem rd_at {α : Type} (z : α) (xs : List α) (i : Nat) (h : i < xs.length) : xs.getD (i : Int).toNat z = xs[i] := by simp [h]

theorem loop_upm {σ ρ : Type} (m : Nat) (g : Nat → σ → Int → Option ρ) (n : Nat) (out : σ → Nat → ρ) (I : σ → Nat → Prop) (hn : n ≤ 9223372036854775806)
    (hstep : ∀ (k : Nat) (s : σ) (i : Nat), m ≤ k → i < n → I s i → (∀ s', I s' (i + 1) → g k s' (wrap64 ((i : Int) + 1)) = some (out s' (i + 1))) → g (k + 1) s (i : Int) = some (out s i))
    (hend : ∀ (k : Nat) (s : σ), m ≤ k → I s n → g (k + 1) s (n : Int) = some (out s n)) :
    ∀ (d k : Nat) (s : σ) (i : Nat), i + d = n → d + m < k → I s i → g k s (i : Int) = some (out s i) := by
  intro d
  induction d with
  | zero =>
    intro k s i hi hk hI
    obtain ⟨k, rfl⟩ : ∃ m, k = m + 1 := ⟨k - 1, by omega⟩
    obtain rfl : i = n := by omega
    exact hend k s (by omega) hI
  | succ d ih =>
    intro k s i hi hk hI
    obtain ⟨k, rfl⟩ : ∃ m, k = m + 1 := ⟨k - 1, by omega⟩
    refine hstep k s i (by omega) (by omega) hI fun s' hI' => ?_
    have := ih k s' (i + 1) (by omega) (by omega) hI'
    rw [wr (by omega) (by omega)]
    exact_mod_cast this
theorem loop_fromm {σ ρ : Type} {m : Nat} {g : Nat → σ → Int → Option ρ} {n : Nat} {out : σ → Nat → ρ} {I : σ → Nat → Prop} (h : ∀ (d k : Nat) (s : σ) (i : Nat), i + d = n → d + m < k → I s i → g k s (i : Int) = some (out s i))
    (k : Nat) (hk : n + m < k) (s : σ) (hI : I s 0) : g k s 0 = some (out s 0) := by
  have := h n k s 0 (by omega) hk hI
  exact_mod_cast this
theorem loop_run {σ ρ : Type} (m : Nat) (g : Nat → σ → Int → Option ρ) (n : Nat) (out : σ → Nat → ρ) (I : σ → Nat → Prop) (hn : n ≤ 9223372036854775806)
    (hstep : ∀ (k : Nat) (s : σ) (i : Nat), m ≤ k → i < n → I s i → (∀ s', I s' (i + 1) → g k s' (wrap64 ((i : Int) + 1)) = some (out s' (i + 1))) → g (k + 1) s (i : Int) = some (out s i))
    (hend : ∀ (k : Nat) (s : σ), m ≤ k → I s n → g (k + 1) s (n : Int) = some (out s n)) (k : Nat) (hk : n + m < k) (s : σ) (hI : I s 0) : g k s 0 = some (out s 0) :=
  loop_fromm (loop_upm m g n out I hn hstep hend) k hk s hI
theorem if_and2 {α : Type} (a : Bool) (p : Prop) [Decidable p] (x y : α) : (if a = true then (if p then x else y) else y) = if (a && decide p) = true then x else y := by
  cases a <;> by_cases h : p <;> simp [h]

theorem if_nand {α : Type} (a b : Bool) (x y : α) : (if a = true then (if b = true then y else x) else x) = if (!(a && b)) = true then x else y := by
  cases a <;> cases b <;> simp
theorem rdPattern_l (xs : List S80) (i : Nat) (h : i < xs.length) : rd_T80 xs (i : Int) = xs[i] := rd_at _ xs i h
theorem rdSite_l (xs : List S24) (i : Nat) (h : i < xs.length) : rd_T24 xs (i : Int) = xs[i] := rd_at _ xs i h
theorem rdRule_l (xs : List S82) (i : Nat) (h : i < xs.length) : rd_T82 xs (i : Int) = xs[i] := rd_at _ xs i h
theorem rdPattern_i (xs : List S67) (i : Nat) (h : i < xs.length) : rd_T67 xs (i : Int) = xs[i] := rd_at _ xs i h
theorem rdSite_i (xs : List S31) (i : Nat) (h : i < xs.length) : rd_T31 xs (i : Int) = xs[i] := rd_at _ xs i h
theorem rdRule_i (xs : List S69) (i : Nat) (h : i < xs.length) : rd_T69 xs (i : Int) = xs[i] := rd_at _ xs i h
theorem rdGrant_l (xs : List S89) (i : Nat) (h : i < xs.length) : rd_T89 xs (i : Int) = xs[i] := rd_at _ xs i h
theorem rdGrant_i (xs : List S85) (i : Nat) (h : i < xs.length) : rd_T85 xs (i : Int) = xs[i] := rd_at _ xs i h
theorem rdLimit_l (xs : List S100) (i : Nat) (h : i < xs.length) : rd_T100 xs (i : Int) = xs[i] := rd_at _ xs i h
theorem rdLimit_i (xs : List S97) (i : Nat) (h : i < xs.length) : rd_T97 xs (i : Int) = xs[i] := rd_at _ xs i h

def appS (r : S69) (qo qs qt : Int) : Bool := appl r.f0 r.f1 r.f2.f0 r.f2.f1 r.f3 r.f4 r.f5.f0 r.f5.f1 qo qs qt
def befS (a b : S69) : Bool := befo a.f0 a.f1 a.f4 a.f5.f0 a.f5.f1 b.f0 b.f1 b.f4 b.f5.f0 b.f5.f1
def dFrom (xs : List S69) (qo qs qt : Int) : List S69 → Nat → Int → Int
  | [], _, b => b
  | r :: rs, i, b => dFrom xs qo qs qt rs (i + 1) (if (appS r qo qs qt && (decide (b < 0) || befS r (rd_T69 xs b))) = true then (i : Int) else b)
def decM (xs : List S69) (qo qs qt : Int) : Int := dFrom xs qo qs qt xs 0 (-1)
theorem dFrom_range (xs : List S69) (qo qs qt : Int) : ∀ (rs : List S69) (i : Nat) (b : Int), -1 ≤ b → b < i → -1 ≤ dFrom xs qo qs qt rs i b ∧ dFrom xs qo qs qt rs i b < i + rs.length
  | [], i, b, h0, h1 => by simp [dFrom]; omega
  | r :: rs, i, b, h0, h1 => by
    simp only [dFrom]
    have := dFrom_range xs qo qs qt rs (i + 1) (if (appS r qo qs qt && (decide (b < 0) || befS r (rd_T69 xs b))) = true then (i : Int) else b) (by split <;> omega) (by split <;> omega)
    simp only [List.length_cons]
    omega
theorem decM_range (xs : List S69) (qo qs qt : Int) : -1 ≤ decM xs qo qs qt ∧ decM xs qo qs qt < xs.length := by
  have := dFrom_range xs qo qs qt xs 0 (-1) (by omega) (by omega)
  simpa [decM] using this

def aFrom (qo qs qt : Int) : List S69 → Nat → List Int
  | [], _ => []
  | r :: rs, i => (if appS r qo qs qt = true then [(i : Int)] else []) ++ aFrom qo qs qt rs (i + 1)
theorem aFrom_mem (qo qs qt : Int) : ∀ (rs : List S69) (i : Nat) (x : Int), x ∈ aFrom qo qs qt rs i → (i : Int) ≤ x ∧ x < i + rs.length
  | [], i, x, h => by simp [aFrom] at h
  | r :: rs, i, x, h => by
    simp only [aFrom, List.mem_append] at h
    rcases h with h | h
    · split at h
      · simp at h; simp; omega
      · simp at h
    · have := aFrom_mem qo qs qt rs (i + 1) x h
      simp; omega
theorem aFrom_len (qo qs qt : Int) : ∀ (rs : List S69) (i : Nat), (aFrom qo qs qt rs i).length ≤ rs.length
  | [], i => by simp [aFrom]
  | r :: rs, i => by
    have := aFrom_len qo qs qt rs (i + 1)
    simp only [aFrom, List.length_append, List.length_cons]
    split <;> simp <;> omega


theorem rdIntP (xs : List Int) (i : Nat) (h : i < xs.length) : rd xs (i : Int) = xs[i] := rd_at _ xs i h
theorem put_mem (L : List Int) (i : Nat) (n x : Int) : x ∈ L.take i ++ [n] ++ L.drop i ↔ x = n ∨ x ∈ L := by
  have h : x ∈ L ↔ x ∈ L.take i ∨ x ∈ L.drop i := by
    rw [← List.mem_append, List.take_append_drop]
  rw [h]
  simp only [List.mem_append, List.mem_singleton]
  constructor
  · rintro ((h | h) | h)
    · exact .inr (.inl h)
    · exact .inl h
    · exact .inr (.inr h)
  · rintro (h | h | h)
    · exact .inl (.inr h)
    · exact .inl (.inl h)
    · exact .inr h
theorem put_len (L : List Int) (i : Nat) (n : Int) : (L.take i ++ [n] ++ L.drop i).length = L.length + 1 := by
  simp only [List.length_append, List.length_take, List.length_drop, List.length_singleton]; omega
theorem put_l (L : List Int) (n : Int) (hn : L.length ≤ 100000) : ∀ (d k i : Nat), i + d = L.length → d < k →
    ∃ L', spec_l6Put.l0 k L n (i : Int) = some L' ∧ (∀ x, x ∈ L' ↔ x = n ∨ x ∈ L) ∧ L'.length ≤ L.length + 1 := by
  intro d
  induction d with
  | zero =>
    intro k i hi hk
    obtain ⟨k, rfl⟩ : ∃ m, k = m + 1 := ⟨k - 1, by omega⟩
    refine ⟨L.take i ++ [n] ++ L.drop i, ?_, put_mem L i n, by rw [put_len]; omega⟩
    have l1 : (L.take i).length = i := by simp; omega
    have l2 : (L.take i ++ [n]).length = i + 1 := by simp; omega
    have l3 : (L.drop i).length = 0 := by simp; omega
    have l4 : ([n] : List Int).length = 1 := rfl
    have l5 : ([] : List Int).length = 0 := rfl
    rw [spec_l6Put.l0, if_neg (by omega), Option.bind_some, if_pos (by omega), if_pos (by omega), Int.toNat_natCast, List.nil_append, if_pos (by omega), Option.bind_some, Option.bind_some, if_pos (by omega), Option.bind_some, if_pos (by omega)]
  | succ d ih =>
    intro k i hi hk
    obtain ⟨k, rfl⟩ : ∃ m, k = m + 1 := ⟨k - 1, by omega⟩
    rw [spec_l6Put.l0, if_pos (by omega), if_pos (by omega), rdIntP _ _ (by omega)]
    by_cases h1 : L[i]'(by omega) < n
    · rw [if_pos h1, wr (by omega) (by omega)]
      exact_mod_cast ih k (i + 1) (by omega) (by omega)
    · rw [if_neg h1]
      by_cases h2 : L[i]'(by omega) = n
      · rw [if_pos h2]
        refine ⟨L, ?_, fun x => ⟨.inr, ?_⟩, by omega⟩
        · have l5 : ([] : List Int).length = 0 := rfl
          rw [Option.bind_some, if_pos (by omega), List.nil_append]
        · rintro (h | h)
          · rw [h, ← h2]; exact List.getElem_mem _
          · exact h
      · rw [if_neg h2]
        refine ⟨L.take i ++ [n] ++ L.drop i, ?_, put_mem L i n, by rw [put_len]; omega⟩
        have l1 : (L.take i).length = i := by simp; omega
        have l2 : (L.take i ++ [n]).length = i + 1 := by simp; omega
        have l3 : (L.drop i).length ≤ 100000 := by simp; omega
        have l4 : ([n] : List Int).length = 1 := rfl
        have l5 : ([] : List Int).length = 0 := rfl
        rw [Option.bind_some, if_pos (by omega), Int.toNat_natCast, List.nil_append, if_pos (by omega), Option.bind_some, Option.bind_some, if_pos (by omega), Option.bind_some, if_pos (by omega)]
theorem put_eq (k : Nat) (L : List Int) (n : Int) (hn : L.length ≤ 100000) (hk : L.length < k) :
    ∃ L', spec_l6Put.f k L n = some L' ∧ (∀ x, x ∈ L' ↔ x = n ∨ x ∈ L) ∧ L'.length ≤ L.length + 1 :=
  put_l L n hn L.length k 0 (by omega) hk

theorem spec_in (a b c : Int) : spec_l1In.f a b c = some (inR a b c) := by
  unfold spec_l1In.f inR; exact and_if _ _

theorem spec_pat (a b : Int) : spec_IsPattern.f a b = some (isPat a b) := by
  unfold spec_IsPattern.f isPat; simp only [spec_in, Option.bind_some]; cases inR a 0 9 <;> simp

theorem spec_sit (a b : Int) : spec_IsSite.f a b = some (isSit a b) := by
  unfold spec_IsSite.f isSit; simp only [spec_in, Option.bind_some]; cases inR a 1 9 <;> simp

theorem toSite_eq (a0 : Int) (a1 : Int) : laws_toSite.f a0 a1 = some (a0, a1) := by
  unfold laws_toSite.f; rfl

theorem impl_in (a b c : Int) : impl_InRange.f a b c = some (inR a b c) := by
  unfold impl_InRange.f inR; exact and_if _ _

theorem impl_pat (a b : Int) : impl_IsPattern.f a b = some (isPat a b) := by
  unfold impl_IsPattern.f isPat; simp only [impl_in, Option.bind_some]; cases inR a 0 9 <;> simp

theorem impl_sit (a b : Int) : impl_IsSite.f a b = some (isSit a b) := by
  unfold impl_IsSite.f isSit; simp only [impl_in, Option.bind_some]; cases inR a 1 9 <;> simp

theorem szRule (xs : List S82) (a : Int) (h0 : 0 ≤ a) (h1 : a ≤ 1048576) (hl : xs.length ≤ 9223372036854775807) : laws_szRuleS.f xs a = some (if a < xs.length then -1 else a - xs.length) := by
  unfold laws_szRuleS.f
  rw [wr (by omega) (by omega)]
  by_cases h : a < xs.length
  · rw [if_pos (by omega), if_pos h]
  · rw [if_neg (by omega), if_neg h]

theorem toRule_eq (a0 : Int) (a1 : Int) (a2 : Int) (a3 : Int) (a4 : Int) (a5 : Int) (a6 : Int) (a7 : Int) : laws_toRule.f a0 a1 a2 a3 a4 a5 a6 a7 = some (a0, a1, a2, a3, a4, a5, a6, a7) := by
  unfold laws_toRule.f laws_toPattern.f laws_toSite.f; rfl

def cvRule (r : S82) : S69 := ⟨r.f0, r.f1, ⟨r.f2.f0, r.f2.f1⟩, r.f3, r.f4, ⟨r.f5.f0, r.f5.f1⟩⟩
theorem toRuleS_eq (k : Nat) (xs : List S82) (hn : xs.length ≤ 1048576) (hk : xs.length < k) : laws_toRuleS.f k xs = some (xs.map cvRule) := by
  have L := loop_up (fun k (s : List S69) i => laws_toRuleS.l0 k xs s i) xs.length (fun s i => s.take i ++ (xs.drop i).map cvRule) (fun s _ => s.length = xs.length) (by omega)
    (fun k s i hi hI ih => by
      simp only [laws_toRuleS.l0]
      rw [if_pos (by omega), if_pos (by omega), rdRule_l xs i hi, toRule_eq]
      simp only [Option.bind_some]
      rw [if_pos (by omega), ih _ (by simp [hI]), Int.toNat_natCast, take_set1 _ _ _ (by omega), drop_at xs i hi, List.map_cons, List.append_assoc]
      rfl)
    (fun k s hI => by
      simp only [laws_toRuleS.l0]
      rw [if_neg nlt, List.drop_of_length_le (Nat.le_refl _), List.take_of_length_le (by omega)]
      simp)
  unfold laws_toRuleS.f
  rw [if_pos (by omega), if_pos (by omega)]
  rw [loop_from L k hk _ (by simp)]
  simp

theorem eqSite_self (a0 : Int) (a1 : Int) : laws_eqSite.f a0 a1 a0 a1 = some true := by
  simp [laws_eqSite.f]

theorem spec_rul (e p po ps s a o b : Int) : spec_IsRule.f e p po ps s a o b = some (isRul e p po ps s a o b) := by
  unfold spec_IsRule.f isRul; simp only [spec_in, spec_pat, Option.bind_some, spec_sit]
  cases inR e 1 5 <;> cases inR p 1 9 <;> cases isPat po ps <;> cases inR s 0 4 <;> simp
  by_cases h1 : a = 1
  · subst h1; simp [beq_dec, inR]
  · by_cases h2 : a = 2
    · subst h2; simp [beq_dec, inR]
    · by_cases h3 : a = 3
      · subst h3; cases isSit o b <;> simp [inR]
      · have : inR a 1 3 = false := by unfold inR; simp; omega
        simp [h1, h2, h3, this]

theorem spec_mtch (a b c d : Int) : spec_MatchSite.f a b c d = some (mtch a b c d) := by
  unfold spec_MatchSite.f mtch; simp only [spec_pat, spec_sit, Option.bind_some]
  cases isPat a b <;> cases isSit c d <;> simp
  by_cases h1 : a = 0 <;> by_cases h2 : a = c <;> by_cases h3 : b = -1 <;> simp [h1, h2, h3] <;> simp [beq_dec]

theorem spec_req (o s t : Int) : spec_IsRequest.f o s t = some (isReq o s t) := by
  unfold spec_IsRequest.f isReq; simp only [spec_sit, spec_in, Option.bind_some]
  cases isSit o s <;> simp

theorem impl_req (o s t : Int) : impl_IsRequest.f o s t = some (isReq o s t) := by
  unfold impl_IsRequest.f isReq; simp only [impl_sit, impl_in, Option.bind_some]
  cases isSit o s <;> simp

theorem spec_appl (e p po ps s a o b qo qs qt : Int) : spec_Applies.f e p po ps s a o b qo qs qt = some (appl e p po ps s a o b qo qs qt) := by
  unfold spec_Applies.f appl; simp only [spec_rul, spec_req, spec_mtch, Option.bind_some]
  cases isRul e p po ps s a o b <;> cases isReq qo qs qt <;> cases mtch po ps qo qs <;> by_cases h : s = 0 <;> simp [h, beq_dec]

theorem spec_befo (a0 a1 a2 a3 a4 a5 a6 a7 b0 b1 b2 b3 b4 b5 b6 b7 : Int) : spec_IsBefore.f a0 a1 a2 a3 a4 a5 a6 a7 b0 b1 b2 b3 b4 b5 b6 b7 = some (befo a0 a1 a5 a6 a7 b0 b1 b5 b6 b7) := by
  unfold spec_IsBefore.f befo
  by_cases h1 : a1 = b1 <;> by_cases h2 : a5 = b5 <;> by_cases h3 : a0 = b0 <;> by_cases h4 : a6 = b6 <;> simp [h1, h2, h3, h4]

theorem or5 (n : Nat) (a b c d e : Int) : cmp_Or_int.f (n + 6) [a, b, c, d, e] = some (if a = 0 then (if b = 0 then (if c = 0 then (if d = 0 then e else d) else c) else b) else a) := by
  have w0 : wrap64 (0 + 1) = 1 := wr (by omega) (by omega)
  have w1 : wrap64 (1 + 1) = 2 := wr (by omega) (by omega)
  have w2 : wrap64 (2 + 1) = 3 := wr (by omega) (by omega)
  have w3 : wrap64 (3 + 1) = 4 := wr (by omega) (by omega)
  have w4 : wrap64 (4 + 1) = 5 := wr (by omega) (by omega)
  unfold cmp_Or_int.f
  simp only [cmp_Or_int.l0, w0, w1, w2, w3, w4]
  by_cases h1 : a = 0 <;> by_cases h2 : b = 0 <;> by_cases h3 : c = 0 <;> by_cases h4 : d = 0 <;> by_cases h5 : e = 0 <;> simp [h1, h2, h3, h4, h5, rd]

theorem cmp_eq (a b : Int) : cmp_Compare_int.f a b = some (if a < b then -1 else if a > b then 1 else 0) := by
  unfold cmp_Compare_int.f cmp_isNaN_int.f; simp only [Option.bind_some, bne_self_eq_false]
  by_cases h1 : a < b <;> by_cases h2 : a > b <;> simp [h1, h2]

theorem spec_DecideRule_eq (k : Nat) (xs : List S69) (qo qs qt : Int) (hn : xs.length ≤ 1048576) (hk : xs.length + 0 < k) : spec_DecideRule.f k xs qo qs qt = some (decM xs qo qs qt) := by
  have L := loop_run 0 (fun k (b : Int) i => spec_DecideRule.l0 k xs b i qo qs qt) xs.length (fun b i => dFrom xs qo qs qt (xs.drop i) i b) (fun b i => -1 ≤ b ∧ b < i) (by omega)
    (fun k b i hm hi hI ih => by
      have hd := drop_at xs i hi
      have hr := rdRule_i xs i hi
      generalize xs[i] = r at hd hr
      obtain ⟨h0, h1⟩ := hI
      simp only [spec_DecideRule.l0]
      rw [if_pos (by omega), if_pos (by omega), hr, hd]
      simp only [dFrom, spec_appl, spec_befo, Option.bind_some, Option.bind_some]
      have ih1 := ih i (by omega)
      have ih2 := ih b (by omega)
      try dsimp only at ih1 ih2
      unfold appS befS
      cases appl r.f0 r.f1 r.f2.f0 r.f2.f1 r.f3 r.f4 r.f5.f0 r.f5.f1 qo qs qt
      · simp only [Bool.false_and, Bool.false_eq_true, if_false]; exact ih2
      · by_cases hb : b < 0
        · simp only [hb, if_true, decide_true, Bool.true_or, Bool.and_true]; exact ih1
        · rw [if_pos rfl, if_neg hb, if_pos (by omega), if_pos (by omega)]
          have hb' : decide (b < 0) = false := decide_eq_false hb
          simp only [hb', Bool.false_or, Bool.true_and]
          split
          · exact ih1
          · exact ih2)
    (fun k b hm hI => by
      simp only [spec_DecideRule.l0]
      rw [if_neg nlt, List.drop_of_length_le (Nat.le_refl _)]
      rfl) k hk (-1) (by omega)
  try dsimp only at L
  unfold spec_DecideRule.f
  rw [L]
  rfl


theorem rdInt0 (xs : List Int) (i : Nat) (h : i < xs.length) : rd xs (i : Int) = xs[i] := rd_at _ xs i h
theorem has_eq (k : Nat) (xs : List Int) (o : Int) (hn : xs.length ≤ 9223372036854775806) (hk : xs.length < k) : spec_l7Has.f k xs o = some (decide (o ∈ xs)) := by
  have L := loop_run 0 (fun k (_ : Unit) i => spec_l7Has.l0 k xs o i) xs.length (fun _ i => decide (o ∈ xs.drop i)) (fun _ _ => True) hn
    (fun k s i hm hi hI ih => by
      simp only [spec_l7Has.l0]
      rw [if_pos (by omega), if_pos (by omega), rdInt0 _ _ hi, drop_at _ _ hi, ih () trivial]
      by_cases h : xs[i] = o
      · rw [if_pos h]; simp [h]
      · have e : (o ∈ xs[i] :: xs.drop (i + 1)) ↔ o ∈ xs.drop (i + 1) := by
          rw [List.mem_cons]; exact or_iff_right (fun e => h e.symm)
        rw [if_neg h, decide_eq_decide.2 e])
    (fun k s hm hI => by
      simp only [spec_l7Has.l0]
      rw [if_neg nlt]; simp) k hk () trivial
  unfold spec_l7Has.f
  simpa using L


def rulX (r : S69) : Bool := isRul r.f0 r.f1 r.f2.f0 r.f2.f1 r.f3 r.f4 r.f5.f0 r.f5.f1
def nvP (xs : List S69) (hs : List Int) (i : Nat) : Bool := rulX (rd_T69 xs (i : Int)) && !decide ((i : Int) ∈ hs)
def nvL (xs : List S69) (hs : List Int) (n d : Nat) : List Int := ((List.range' n d).filter (nvP xs hs)).map fun (n : Nat) => (n : Int)
theorem nvL_len (xs : List S69) (hs : List Int) (n d : Nat) : (nvL xs hs n d).length ≤ d := by
  unfold nvL
  have := List.length_filter_le (nvP xs hs) (List.range' n d)
  simp at this ⊢
  omega
theorem nvL_succ (xs : List S69) (hs : List Int) (n d : Nat) : nvL xs hs n (d + 1) = (if nvP xs hs n = true then [(n : Int)] else []) ++ nvL xs hs (n + 1) d := by
  unfold nvL
  rw [show List.range' n (d + 1) = n :: List.range' (n + 1) d from rfl, List.filter_cons]
  split <;> rfl
theorem nvL_congr (xs : List S69) (hs hs' : List Int) (h : ∀ i : Nat, (i : Int) ∈ hs ↔ (i : Int) ∈ hs') (n d : Nat) : nvL xs hs n d = nvL xs hs' n d := by
  unfold nvL
  rw [show nvP xs hs = nvP xs hs' from funext fun i => by unfold nvP; rw [decide_eq_decide.2 (h i)]]
theorem spec_nv1 (xs : List S69) (hn : xs.length ≤ 1048576) (L hs : List Int) (hL : L.length ≤ 100000) (hm : ∀ i : Nat, (i : Int) ∈ L ↔ (i : Int) ∈ hs) :
    ∀ (d k n : Nat) (c : List Int), n + d = xs.length → c.length ≤ n → d + L.length + 5 < k → spec_NeverChosen.l1 k xs L c (n : Int) = some (c ++ nvL xs hs n d) := by
  intro d
  induction d with
  | zero =>
    intro k n c h1 h2 h3
    obtain ⟨k, rfl⟩ : ∃ m, k = m + 1 := ⟨k - 1, by omega⟩
    rw [spec_NeverChosen.l1, if_neg (by omega)]
    simp [nvL]
  | succ d ih =>
    intro k n c h1 h2 h3
    obtain ⟨k, rfl⟩ : ∃ m, k = m + 1 := ⟨k - 1, by omega⟩
    rw [spec_NeverChosen.l1, if_pos (by omega), if_pos (by omega), spec_rul, Option.bind_some, wr (by omega) (by omega), nvL_succ, has_eq _ _ _ (by omega) (by omega), Option.bind_some]
    change (if rulX (rd_T69 xs (n : Int)) = true then _ else _) = _
    have e : nvP xs hs n = (rulX (rd_T69 xs (n : Int)) && !decide ((n : Int) ∈ L)) := by unfold nvP; rw [decide_eq_decide.2 (hm n)]
    rw [e]
    cases rulX (rd_T69 xs (n : Int))
    · simp only [Bool.false_and, Bool.false_eq_true, if_false, List.nil_append]
      exact ih k (n + 1) c (by omega) (by omega) (by omega)
    · by_cases h : (n : Int) ∈ L
      · simp only [h, decide_true, Bool.not_true, Bool.and_false, Bool.false_eq_true, if_true, if_false, List.nil_append]
        exact ih k (n + 1) c (by omega) (by omega) (by omega)
      · simp only [h, decide_false, Bool.not_false, Bool.and_true, Bool.false_eq_true, if_true, if_false]
        rw [if_pos (by omega), ← List.append_assoc]
        exact ih k (n + 1) (c ++ [(n : Int)]) (by omega) (by simp; omega) (by omega)
def hit (xs : List S69) (n : Nat) : Int := decM xs ((1 + n / 10 % 9 : Nat) : Int) ((n % 10 : Nat) : Int) ((1 + n / 90 : Nat) : Int)
theorem spec_nv0 (xs : List S69) (hn : xs.length ≤ 1048576) : ∀ (d k n : Nat) (L hs : List Int), n + d = 360 → L.length ≤ n → (∀ i : Nat, (i : Int) ∈ L ↔ (i : Int) ∈ hs) → d + xs.length + 500 < k →
    spec_NeverChosen.l0 k xs L (n : Int) = some (nvL xs (hs ++ (List.range' n d).map (hit xs)) 0 xs.length) := by
  intro d
  induction d with
  | zero =>
    intro k n L hs h1 h2 h3 h4
    obtain ⟨k, rfl⟩ : ∃ m, k = m + 1 := ⟨k - 1, by omega⟩
    rw [spec_NeverChosen.l0, if_neg (by omega)]
    have := spec_nv1 xs hn L hs (by omega) h3 xs.length k 0 [] (by omega) (by simp) (by omega)
    simpa using this
  | succ d ih =>
    intro k n L hs h1 h2 h3 h4
    obtain ⟨k, rfl⟩ : ∃ m, k = m + 1 := ⟨k - 1, by omega⟩
    have e1 : Int.tmod (n : Int) 10 = ((n % 10 : Nat) : Int) := rfl
    have e2 : Int.tdiv (n : Int) 10 = ((n / 10 : Nat) : Int) := rfl
    have e3 : Int.tmod ((n / 10 : Nat) : Int) 9 = ((n / 10 % 9 : Nat) : Int) := rfl
    have e4 : Int.tdiv (n : Int) 90 = ((n / 90 : Nat) : Int) := rfl
    have e5 : (1 : Int) + ((n / 10 % 9 : Nat) : Int) = ((1 + n / 10 % 9 : Nat) : Int) := by omega
    have e6 : (1 : Int) + ((n / 90 : Nat) : Int) = ((1 + n / 90 : Nat) : Int) := by omega
    rw [spec_NeverChosen.l0, if_pos (by omega), e1, e2, wr (i := ((n / 10 : Nat) : Int)) (by omega) (by omega), e3, e4, wr (i := ((n / 90 : Nat) : Int)) (by omega) (by omega), e5, e6,
      wr (i := ((1 + n / 10 % 9 : Nat) : Int)) (by omega) (by omega), wr (i := ((1 + n / 90 : Nat) : Int)) (by omega) (by omega), spec_DecideRule_eq k xs _ _ _ hn (by omega), Option.bind_some, wr (i := (n : Int) + 1) (by omega) (by omega)]
    change (if hit xs n ≥ 0 then (spec_l6Put.f k L (hit xs n)).bind _ else _) = _
    have hr : (List.range' n (d + 1)).map (hit xs) = [hit xs n] ++ (List.range' (n + 1) d).map (hit xs) := rfl
    rw [hr, ← List.append_assoc]
    by_cases h : hit xs n ≥ 0
    · obtain ⟨L', p1, p2, p3⟩ := put_eq k L (hit xs n) (by omega) (by omega)
      rw [if_pos h, p1, Option.bind_some]
      refine ih k (n + 1) L' (hs ++ [hit xs n]) (by omega) (by omega) (fun i => ?_) (by omega)
      rw [p2, List.mem_append, List.mem_singleton, h3 i]
      exact or_comm
    · rw [if_neg h]
      refine ih k (n + 1) L (hs ++ [hit xs n]) (by omega) (by omega) (fun i => ?_) (by omega)
      rw [List.mem_append, List.mem_singleton, h3 i]
      exact ⟨.inl, fun z => z.elim id fun z => absurd z (by omega)⟩
def nvM (xs : List S69) : List Int := nvL xs ((List.range' 0 360).map (hit xs)) 0 xs.length
theorem spec_Never_eq (k : Nat) (xs : List S69) (hn : xs.length ≤ 1048576) (hk : xs.length + 1000 < k) : spec_NeverChosen.f k xs = some (nvM xs) :=
  spec_nv0 xs hn 360 k 0 [] [] (by omega) (by simp) (fun i => Iff.rfl) (by omega)

theorem impl_rul (n : Nat) (e p po ps s a o b : Int) : impl_IsRule.f (n + 2) e p po ps s a o b = some (isRul e p po ps s a o b) := by
  unfold impl_IsRule.f isRul; simp only [impl_in, impl_pat, Option.bind_some, impl_IsRule.j0, impl_IsRule.j1, impl_sit]
  cases inR e 1 5 <;> cases inR p 1 9 <;> cases isPat po ps <;> cases inR s 0 4 <;> simp
  by_cases h1 : a = 1
  · subst h1; simp [beq_dec]
  · by_cases h2 : a = 2
    · subst h2; simp [beq_dec]
    · by_cases h3 : a = 3
      · subst h3; simp
      · simp [h1, h2, h3]

theorem impl_mtch (a b c d : Int) : impl_MatchSite.f a b c d = some (mtch a b c d) := by
  unfold impl_MatchSite.f mtch; simp only [impl_pat, impl_sit, Option.bind_some]
  cases isPat a b <;> cases isSit c d <;> simp
  by_cases h1 : a = 0 <;> by_cases h2 : a = c <;> by_cases h3 : b = -1 <;> simp [h1, h2, h3] <;> simp [beq_dec]

theorem impl_appl (n : Nat) (e p po ps s a o b qo qs qt : Int) : impl_Applies.f (n + 2) e p po ps s a o b qo qs qt = some (appl e p po ps s a o b qo qs qt) := by
  unfold impl_Applies.f appl; simp only [impl_rul, impl_req, impl_mtch, Option.bind_some]
  cases isRul e p po ps s a o b <;> cases isReq qo qs qt <;> cases mtch po ps qo qs <;> by_cases h : s = 0 <;> simp [h, beq_dec]

theorem impl_befo (n : Nat) (a0 a1 a2 a3 a4 a5 a6 a7 b0 b1 b2 b3 b4 b5 b6 b7 : Int) : impl_IsBefore.f (n + 6) a0 a1 a2 a3 a4 a5 a6 a7 b0 b1 b2 b3 b4 b5 b6 b7 = some (befo a0 a1 a5 a6 a7 b0 b1 b5 b6 b7) := by
  unfold impl_IsBefore.f impl_compareRules.f befo; simp only [cmp_eq, or5, Option.bind_some]
  rcases Int.lt_trichotomy a1 b1 with h | h | h
  · simp [show ¬ b1 < a1 by omega, show b1 > a1 by omega, show ¬ a1 = b1 by omega]
  · subst h
    rcases Int.lt_trichotomy a5 b5 with h | h | h
    · simp [h, show ¬ a5 = b5 by omega]
    · subst h
      rcases Int.lt_trichotomy a0 b0 with h | h | h
      · simp [h, show ¬ a0 = b0 by omega]
      · subst h
        rcases Int.lt_trichotomy a6 b6 with h | h | h
        · simp [h, show ¬ a6 = b6 by omega]
        · subst h
          rcases Int.lt_trichotomy a7 b7 with h | h | h
          · simp [h]
          · subst h; simp
          · simp [h, show ¬ a7 < b7 by omega]
        · simp [h, show ¬ a6 < b6 by omega, show ¬ a6 = b6 by omega]
      · simp [h, show ¬ a0 < b0 by omega, show ¬ a0 = b0 by omega]
    · simp [h, show ¬ a5 < b5 by omega, show ¬ a5 = b5 by omega]
  · simp [h, show ¬ a1 = b1 by omega]

theorem impl_DecideRule_eq (k : Nat) (xs : List S69) (qo qs qt : Int) (hn : xs.length ≤ 1048576) (hk : xs.length + 6 < k) : impl_DecideRule.f k xs qo qs qt = some (decM xs qo qs qt) := by
  have L := loop_run 6 (fun k (b : Int) i => impl_DecideRule.l0 k xs b xs (xs.length : Int) i qo qs qt) xs.length (fun b i => dFrom xs qo qs qt (xs.drop i) i b) (fun b i => -1 ≤ b ∧ b < i) (by omega)
    (fun k b i hm hi hI ih => by
      have hd := drop_at xs i hi
      have hr := rdRule_i xs i hi
      generalize xs[i] = r at hd hr
      obtain ⟨h0, h1⟩ := hI
      simp only [impl_DecideRule.l0]
      obtain ⟨k, rfl⟩ : ∃ z, k = z + 6 := ⟨k - 6, by omega⟩
      rw [if_pos (by omega), if_pos (by omega), if_pos (by omega), hr, hd]
      simp only [dFrom, impl_appl, impl_befo, Option.bind_some, impl_appl (k + 4)]
      have ih1 := ih i (by omega)
      have ih2 := ih b (by omega)
      try dsimp only at ih1 ih2
      unfold appS befS
      cases appl r.f0 r.f1 r.f2.f0 r.f2.f1 r.f3 r.f4 r.f5.f0 r.f5.f1 qo qs qt
      · simp only [Bool.false_and, Bool.false_eq_true, if_false]; exact ih2
      · by_cases hb : b < 0
        · simp only [hb, if_true, decide_true, Bool.true_or, Bool.and_true]; exact ih1
        · rw [if_pos rfl, if_neg hb, if_pos (by omega), if_pos (by omega)]
          have hb' : decide (b < 0) = false := decide_eq_false hb
          simp only [hb', Bool.false_or, Bool.true_and]
          split
          · exact ih1
          · exact ih2)
    (fun k b hm hI => by
      simp only [impl_DecideRule.l0]
      rw [if_neg nlt, List.drop_of_length_le (Nat.le_refl _)]
      rfl) k hk (-1) (by omega)
  try dsimp only at L
  unfold impl_DecideRule.f
  rw [L]
  rfl


def okB (xs : List S69) (B : List Bool) (hs : List Int) : Prop := B.length = xs.length ∧ ∀ i : Nat, i < xs.length → rdOf false B (i : Int) = decide ((i : Int) ∈ hs)
theorem rdB (B : List Bool) (i : Nat) (h : i < B.length) : rdOf false B (i : Int) = B[i] := rd_at _ B i h
theorem okB_set (xs : List S69) (B : List Bool) (hs : List Int) (v : Int) (h : okB xs B hs) (h0 : 0 ≤ v) (h1 : v < xs.length) : okB xs (B.set v.toNat true) (hs ++ [v]) := by
  obtain ⟨hl, hb⟩ := h
  refine ⟨by rw [List.length_set, hl], fun i hi => ?_⟩
  have := hb i hi
  rw [rdB _ i (by omega)] at this
  rw [rdB _ i (by rw [List.length_set]; omega), List.getElem_set]
  by_cases e : v.toNat = i
  · have e' : (i : Int) = v := by omega
    rw [if_pos e, e']; simp
  · have e' : ¬ (i : Int) = v := by omega
    rw [if_neg e, this]; simp [e']
theorem okB_no (xs : List S69) (B : List Bool) (hs : List Int) (v : Int) (h : okB xs B hs) (h0 : ¬ 0 ≤ v) : okB xs B (hs ++ [v]) := by
  obtain ⟨hl, hb⟩ := h
  refine ⟨hl, fun i hi => ?_⟩
  have e' : ¬ (i : Int) = v := by omega
  rw [hb i hi]; simp [e']
def h2 (xs : List S69) (o s : Nat) (t : Nat) : Int := decM xs (o : Int) (s : Int) (t : Int)
theorem impl_nv2 (xs : List S69) (hn : xs.length ≤ 1048576) (o s : Nat) (hs10 : s < 10) (F : Nat) (hF : xs.length + 10 ≤ F) (R : Option (List Int)) : ∀ (d k t : Nat) (B : List Bool) (hs : List Int), t + d = 5 → okB xs B hs → d + 1 + F < k →
    (∀ k' B', F < k' → okB xs B' (hs ++ (List.range' t d).map (h2 xs o s)) → impl_NeverChosen.l1 k' xs B' (o : Int) ((s + 1 : Nat) : Int) = R) → impl_NeverChosen.l2 k xs B (o : Int) (s : Int) (t : Int) (s : Int) = R := by
  intro d
  induction d with
  | zero =>
    intro k t B hs h1 hB hk hR
    obtain ⟨k, rfl⟩ : ∃ m, k = m + 1 := ⟨k - 1, by omega⟩
    rw [impl_NeverChosen.l2, if_neg (by omega), wr (by omega) (by omega)]
    exact hR k B (by omega) (by simpa using hB)
  | succ d ih =>
    intro k t B hs h1 hB hk hR
    obtain ⟨k, rfl⟩ : ∃ m, k = m + 1 := ⟨k - 1, by omega⟩
    have hr : (List.range' t (d + 1)).map (h2 xs o s) = [h2 xs o s t] ++ (List.range' (t + 1) d).map (h2 xs o s) := rfl
    rw [hr, ← List.append_assoc] at hR
    have hg : -1 ≤ h2 xs o s t ∧ h2 xs o s t < xs.length := decM_range xs _ _ _
    rw [impl_NeverChosen.l2, if_pos (by omega), impl_DecideRule_eq k xs _ _ _ hn (by omega), Option.bind_some, wr (i := (t : Int) + 1) (by omega) (by omega)]
    change (if h2 xs o s t ≥ 0 then (if 0 ≤ h2 xs o s t then (if h2 xs o s t < (B.length : Int) then impl_NeverChosen.l2 k xs (B.set (h2 xs o s t).toNat true) _ _ _ _ else none) else none) else _) = _
    by_cases h : h2 xs o s t ≥ 0
    · rw [if_pos h, if_pos h, if_pos (by rw [hB.1]; omega)]
      exact ih k (t + 1) _ _ (by omega) (okB_set xs B hs _ hB h hg.2) (by omega) hR
    · rw [if_neg h]
      exact ih k (t + 1) _ _ (by omega) (okB_no xs B hs _ hB h) (by omega) hR
def h1 (xs : List S69) (o s : Nat) : List Int := (List.range' 1 4).map (h2 xs o s)
theorem impl_nv1 (xs : List S69) (hn : xs.length ≤ 1048576) (o : Nat) (ho : o < 10) (F : Nat) (hF : xs.length + 10 ≤ F) (R : Option (List Int)) : ∀ (d k s : Nat) (B : List Bool) (hs : List Int), s + d = 10 → okB xs B hs → 6 * d + 1 + F < k →
    (∀ k' B', F < k' → okB xs B' (hs ++ (List.range' s d).flatMap (h1 xs o)) → impl_NeverChosen.l0 k' xs B' ((o + 1 : Nat) : Int) = R) → impl_NeverChosen.l1 k xs B (o : Int) (s : Int) = R := by
  intro d
  induction d with
  | zero =>
    intro k s B hs h1' hB hk hR
    obtain ⟨k, rfl⟩ : ∃ m, k = m + 1 := ⟨k - 1, by omega⟩
    rw [impl_NeverChosen.l1, if_neg (by omega), wr (by omega) (by omega)]
    exact hR k B (by omega) (by simpa using hB)
  | succ d ih =>
    intro k s B hs h1' hB hk hR
    obtain ⟨k, rfl⟩ : ∃ m, k = m + 1 := ⟨k - 1, by omega⟩
    have hr : (List.range' s (d + 1)).flatMap (h1 xs o) = h1 xs o s ++ (List.range' (s + 1) d).flatMap (h1 xs o) := rfl
    rw [hr, ← List.append_assoc] at hR
    rw [impl_NeverChosen.l1, if_pos (by omega)]
    exact impl_nv2 xs hn o s (by omega) (6 * d + 1 + F) (by omega) R 4 k 1 B hs (by omega) hB (by omega) fun k' B' hk' hB' => ih k' (s + 1) B' _ (by omega) hB' hk' hR
def h0 (xs : List S69) (o : Nat) : List Int := (List.range' 0 10).flatMap (h1 xs o)
theorem impl_nv0 (xs : List S69) (hn : xs.length ≤ 1048576) (F : Nat) (hF : xs.length + 10 ≤ F) (R : Option (List Int)) : ∀ (d k o : Nat) (B : List Bool) (hs : List Int), o + d = 10 → okB xs B hs → 63 * d + 1 + F < k →
    (∀ k' B', F < k' → okB xs B' (hs ++ (List.range' o d).flatMap (h0 xs)) → impl_NeverChosen.l3 k' B' [] xs (xs.length : Int) 0 = R) → impl_NeverChosen.l0 k xs B (o : Int) = R := by
  intro d
  induction d with
  | zero =>
    intro k o B hs h1' hB hk hR
    obtain ⟨k, rfl⟩ : ∃ m, k = m + 1 := ⟨k - 1, by omega⟩
    rw [impl_NeverChosen.l0, if_neg (by omega)]
    exact hR k B (by omega) (by simpa using hB)
  | succ d ih =>
    intro k o B hs h1' hB hk hR
    obtain ⟨k, rfl⟩ : ∃ m, k = m + 1 := ⟨k - 1, by omega⟩
    have hr : (List.range' o (d + 1)).flatMap (h0 xs) = h0 xs o ++ (List.range' (o + 1) d).flatMap (h0 xs) := rfl
    rw [hr, ← List.append_assoc] at hR
    rw [impl_NeverChosen.l0, if_pos (by omega)]
    exact impl_nv1 xs hn o (by omega) (63 * d + 1 + F) (by omega) R 10 k 0 B hs (by omega) hB (by omega) fun k' B' hk' hB' => ih k' (o + 1) B' _ (by omega) hB' hk' hR
theorem impl_nv3 (xs : List S69) (hn : xs.length ≤ 1048576) (B : List Bool) (hs : List Int) (hB : okB xs B hs) :
    ∀ (d k n : Nat) (c : List Int), n + d = xs.length → c.length ≤ n → d + 5 < k → impl_NeverChosen.l3 k B c xs (xs.length : Int) (n : Int) = some (c ++ nvL xs hs n d) := by
  intro d
  induction d with
  | zero =>
    intro k n c h1 h2 h3
    obtain ⟨k, rfl⟩ : ∃ m, k = m + 1 := ⟨k - 1, by omega⟩
    rw [impl_NeverChosen.l3, if_neg (by omega)]
    simp [nvL]
  | succ d ih =>
    intro k n c h1 h2 h3
    obtain ⟨k, rfl⟩ : ∃ m, k = m + 3 := ⟨k - 3, by omega⟩
    rw [impl_NeverChosen.l3, if_pos (by omega), if_pos (by omega), if_pos (by omega), impl_rul, Option.bind_some, wr (by omega) (by omega), nvL_succ, hB.2 n (by omega)]
    have hlen : (n : Int) < (B.length : Int) := by rw [hB.1]; omega
    rw [if_pos hlen]
    change (if rulX (rd_T69 xs (n : Int)) = true then _ else _) = _
    have e : nvP xs hs n = (rulX (rd_T69 xs (n : Int)) && !decide ((n : Int) ∈ hs)) := rfl
    rw [e]
    cases rulX (rd_T69 xs (n : Int))
    · simp only [Bool.false_and, Bool.false_eq_true, if_false, List.nil_append]
      exact ih (k + 2) (n + 1) c (by omega) (by omega) (by omega)
    · by_cases h : (n : Int) ∈ hs
      · simp only [h, decide_true, Bool.not_true, Bool.and_false, Bool.false_eq_true, if_true, if_false, List.nil_append]
        exact ih (k + 2) (n + 1) c (by omega) (by omega) (by omega)
      · simp only [h, decide_false, Bool.not_false, Bool.and_true, Bool.false_eq_true, if_true, if_false]
        rw [if_pos (by omega), ← List.append_assoc]
        exact ih (k + 2) (n + 1) (c ++ [(n : Int)]) (by omega) (by simp; omega) (by omega)
def TS : List (Nat × Nat × Nat) := (List.range' 0 360).map fun n => (1 + n / 10 % 9, n % 10, 1 + n / 90)
def TI : List (Nat × Nat × Nat) := (List.range' 1 9).flatMap fun o => (List.range' 0 10).flatMap fun s => (List.range' 1 4).map fun t => (o, s, t)
theorem TS_TI : TS.all (fun p => TI.contains p) = true ∧ TI.all (fun p => TS.contains p) = true := by decide +kernel
theorem T_iff (p : Nat × Nat × Nat) : p ∈ TS ↔ p ∈ TI := by
  obtain ⟨a, b⟩ := TS_TI
  rw [List.all_eq_true] at a b
  exact ⟨fun h => by simpa using a p h, fun h => by simpa using b p h⟩
theorem hit_iff (xs : List S69) (x : Int) : x ∈ (List.range' 0 360).map (hit xs) ↔ x ∈ (List.range' 1 9).flatMap (h0 xs) := by
  have e1 : (List.range' 0 360).map (hit xs) = TS.map fun p => h2 xs p.1 p.2.1 p.2.2 := by
    unfold TS; rw [List.map_map]; rfl
  have e2 : (List.range' 1 9).flatMap (h0 xs) = TI.map fun p => h2 xs p.1 p.2.1 p.2.2 := by
    unfold TI h0 h1
    simp only [List.map_flatMap, List.map_map]
    rfl
  rw [e1, e2, List.mem_map, List.mem_map]
  exact ⟨fun ⟨p, h, e⟩ => ⟨p, (T_iff p).1 h, e⟩, fun ⟨p, h, e⟩ => ⟨p, (T_iff p).2 h, e⟩⟩
theorem impl_Never_eq (k : Nat) (xs : List S69) (hn : xs.length ≤ 1048576) (hk : xs.length + 1000 < k) : impl_NeverChosen.f k xs = some (nvM xs) := by
  unfold impl_NeverChosen.f
  rw [if_pos (by omega), Int.toNat_natCast, if_pos (by omega)]
  refine impl_nv0 xs hn (xs.length + 10) (by omega) _ 9 k 1 (List.replicate xs.length false) [] (by omega) ⟨by simp, fun i hi => ?_⟩ (by omega) fun k' B' hk' hB' => ?_
  · rw [rdB _ i (by simpa using hi)]; simp
  · have := impl_nv3 xs hn B' _ hB' xs.length k' 0 [] (by omega) (by simp) (by omega)
    rw [show ((0 : Nat) : Int) = 0 from rfl] at this
    rw [this, List.nil_append]
    unfold nvM
    rw [List.nil_append]
    congr 1
    exact nvL_congr xs _ _ (fun i => (hit_iff xs i).symm) 0 xs.length

theorem eqRule_self (a0 : Int) (a1 : Int) (a2 : Int) (a3 : Int) (a4 : Int) (a5 : Int) (a6 : Int) (a7 : Int) : laws_eqRule.f a0 a1 a2 a3 a4 a5 a6 a7 a0 a1 a2 a3 a4 a5 a6 a7 = some true := by
  simp [laws_eqRule.f, laws_eqPattern.f, laws_eqSite.f]

theorem eqRuleS_self (k : Nat) (xs : List S69) (hn : xs.length ≤ 1048576) (hk : xs.length < k) : laws_eqRuleS.f k xs xs = some true := by
  have L := loop_up (fun k (_ : Unit) i => laws_eqRuleS.l0 k xs xs i) xs.length (fun _ _ => true) (fun _ _ => True) (by omega)
    (fun k s i hi hI ih => by
      simp only [laws_eqRuleS.l0]
      rw [if_pos (by omega), if_pos (by omega), if_pos (by omega)]
      simp only [eqRule_self, Option.bind_some, if_true]
      exact ih () trivial)
    (fun k s hI => by
      simp only [laws_eqRuleS.l0]
      rw [if_neg nlt])
  unfold laws_eqRuleS.f
  rw [if_pos rfl]
  exact loop_from L k hk () trivial

def mkRule : Int → List S69 → List S69
  | _, [] => []
  | m, x :: xs => ⟨m, m + 1, ⟨m + 2, m + 3⟩, m + 4, m + 5, ⟨m + 6, m + 7⟩⟩ :: mkRule (m + 8) xs
theorem mkRule_len : ∀ (xs : List S69) (m : Int), (mkRule m xs).length = xs.length
  | [], _ => rfl
  | x :: xs, m => by simp [mkRule, mkRule_len xs]
theorem rdRule_set (xs : List S69) (i : Nat) (v : S69) (h : i < xs.length) : rd_T69 (xs.set i v) (i : Int) = v := by
  rw [rdRule_i _ i (by simpa using h)]; simp
set_option maxHeartbeats 4000000 in
theorem markRuleS_eq (k : Nat) (xs : List S69) (hn : xs.length ≤ 1048576) (hk : xs.length < k) : laws_markRuleS.f k xs 1 = some (1 + 8 * (xs.length : Int), mkRule 1 xs) := by
  have L := loop_up (fun k (s : List S69 × Int) i => laws_markRuleS.l0 k s.1 s.2 i) xs.length (fun s i => (s.2 + 8 * ((xs.length - i : Nat) : Int), s.1.take i ++ mkRule s.2 (s.1.drop i))) (fun s i => s.1.length = xs.length ∧ 1 ≤ s.2 ∧ s.2 ≤ 1 + 8 * i) (by omega)
    (fun k s i hi hI ih => by
      obtain ⟨s, m⟩ := s
      obtain ⟨h1, h2, h3⟩ := hI
      simp only at h1 h2 h3
      simp only [laws_markRuleS.l0]
      rw [if_pos (by omega), if_pos (by omega)]
      have hw : ∀ j : Int, 0 ≤ j → j ≤ 10 → wrap64 (m + j) = m + j := fun j _ _ => wr (by omega) (by omega)
      have hv : ∀ j : Int, 0 ≤ j → j ≤ 9 → wrap64 (m + j + 1) = m + (j + 1) := fun j _ _ => by rw [Int.add_assoc]; exact hw (j + 1) (by omega) (by omega)
      have w1 : wrap64 (m + 1) = m + 1 := hw 1 (by decide) (by decide)
      have w2 : wrap64 (m + 2) = m + 2 := hw 2 (by decide) (by decide)
      have w3 : wrap64 (m + 3) = m + 3 := hw 3 (by decide) (by decide)
      have w4 : wrap64 (m + 4) = m + 4 := hw 4 (by decide) (by decide)
      have w5 : wrap64 (m + 5) = m + 5 := hw 5 (by decide) (by decide)
      have w6 : wrap64 (m + 6) = m + 6 := hw 6 (by decide) (by decide)
      have w7 : wrap64 (m + 7) = m + 7 := hw 7 (by decide) (by decide)
      have w8 : wrap64 (m + 8) = m + 8 := hw 8 (by decide) (by decide)
      have v1 : wrap64 (m + 1 + 1) = m + 2 := hv 1 (by decide) (by decide)
      have v2 : wrap64 (m + 2 + 1) = m + 3 := hv 2 (by decide) (by decide)
      have v3 : wrap64 (m + 3 + 1) = m + 4 := hv 3 (by decide) (by decide)
      have v4 : wrap64 (m + 4 + 1) = m + 5 := hv 4 (by decide) (by decide)
      have v5 : wrap64 (m + 5 + 1) = m + 6 := hv 5 (by decide) (by decide)
      have v6 : wrap64 (m + 6 + 1) = m + 7 := hv 6 (by decide) (by decide)
      have v7 : wrap64 (m + 7 + 1) = m + 8 := hv 7 (by decide) (by decide)
      clear hw hv
      simp only [Option.bind_some, Int.toNat_natCast, w1, w2, w3, w4, w5, w6, w7, w8, v1, v2, v3, v4, v5, v6, v7]
      simp only [rdRule_set _ _ _ (show i < (s.set i _).length by simp; omega), rdRule_set _ _ _ (show i < s.length by omega), List.set_set, rdRule_i s i (by omega)]
      have hd := drop_at s i (by omega)
      have := ih (s.set i (let x := s[i]; ⟨m, m + 1, ⟨m + 2, m + 3⟩, m + 4, m + 5, ⟨m + 6, m + 7⟩⟩), m + 8) (by simp; omega)
      simp only at this
      rw [this]
      rw [take_set1 _ _ _ (by omega), hd]
      simp only [mkRule, List.append_assoc, List.singleton_append, List.cons_append, List.nil_append]
      congr 2
      · omega
      · simp [List.drop_set]
    )
    (fun k s hI => by
      simp only [laws_markRuleS.l0]
      rw [if_neg (by omega), List.drop_of_length_le (by omega), List.take_of_length_le (by omega)]
      simp [mkRule])
  unfold laws_markRuleS.f
  have := loop_from L k hk (xs, 1) (by simp)
  try simp only at this
  rw [this]
  simp

theorem rdInt (xs : List Int) (i : Nat) (h : i < xs.length) : rd xs (i : Int) = xs[i] := rd_at _ xs i h
theorem eqIntS_self (k : Nat) (xs : List Int) (hn : xs.length ≤ 1048576) (hk : xs.length < k) : laws_eqIntS.f k xs xs = some true := by
  have L := loop_run 0 (fun k (_ : Unit) i => laws_eqIntS.l0 k xs xs i) xs.length (fun _ _ => true) (fun _ _ => True) (by omega)
    (fun k s i hm hi hI ih => by
      simp only [laws_eqIntS.l0]
      rw [if_pos (by omega), if_pos (by omega), if_pos (by omega)]
      simp only [if_true]
      exact ih () trivial)
    (fun k s hm hI => by
      simp only [laws_eqIntS.l0]
      rw [if_neg nlt]) k hk () trivial
  try dsimp only at L
  unfold laws_eqIntS.f
  rw [if_pos rfl, L]

def mkInt : Int → List Int → List Int
  | _, [] => []
  | m, x :: xs => m :: mkInt (m + 1) xs
theorem mkInt_len : ∀ (xs : List Int) (m : Int), (mkInt m xs).length = xs.length
  | [], _ => rfl
  | x :: xs, m => by simp [mkInt, mkInt_len xs]
theorem markIntS_eq (k : Nat) (xs : List Int) (hn : xs.length ≤ 1048576) (hk : xs.length < k) : laws_markIntS.f k xs 1 = some (1 + (xs.length : Int), mkInt 1 xs) := by
  have L := loop_run 0 (fun k (s : List Int × Int) i => laws_markIntS.l0 k s.1 s.2 i) xs.length (fun s i => (s.2 + ((xs.length - i : Nat) : Int), s.1.take i ++ mkInt s.2 (s.1.drop i))) (fun s i => s.1.length = xs.length ∧ 1 ≤ s.2 ∧ s.2 ≤ 1 + i) (by omega)
    (fun k s i hm hi hI ih => by
      obtain ⟨s, m⟩ := s
      obtain ⟨h1, h2, h3⟩ := hI
      simp only at h1 h2 h3
      simp only [laws_markIntS.l0]
      rw [if_pos (by omega), if_pos (by omega), wr (by omega) (by omega), Int.toNat_natCast]
      have hd := drop_at s i (by omega)
      have := ih (s.set i m, m + 1) (by simp; omega)
      simp only at this
      rw [this]
      rw [take_set1 _ _ _ (by omega), hd]
      simp only [mkInt, List.append_assoc, List.singleton_append, List.cons_append, List.nil_append]
      congr 2
      · omega
      · simp [List.drop_set])
    (fun k s hm hI => by
      simp only [laws_markIntS.l0]
      rw [if_neg (by omega), List.drop_of_length_le (by omega), List.take_of_length_le (by omega)]
      simp [mkInt]) k hk (xs, 1) (by simp)
  try dsimp only at L
  unfold laws_markIntS.f
  rw [L]
  simp

theorem heldIntS_eq (k : Nat) (xs : List Int) (hn : xs.length ≤ 1048576) (hk : xs.length < k) : laws_heldIntS.f k (mkInt 1 xs) 1 = some (1 + (xs.length : Int)) := by
  have hl := mkInt_len xs 1
  have L := loop_run 0 (fun k (m : Int) i => laws_heldIntS.l0 k (mkInt 1 xs) m i) xs.length (fun m i => m + ((xs.length - i : Nat) : Int)) (fun m i => 1 ≤ m ∧ m ≤ 1 + i ∧ (mkInt 1 xs).drop i = mkInt m (xs.drop i)) (by omega)
    (fun k m i hm hi hI ih => by
      obtain ⟨h2, h3, h4⟩ := hI
      have hd := drop_at (mkInt 1 xs) i (by omega)
      have hx := drop_at xs i hi
      have hr := rdInt (mkInt 1 xs) i (by omega)
      rw [hd, hx] at h4
      simp only [mkInt, List.cons.injEq] at h4
      obtain ⟨h5, h6⟩ := h4
      rw [h5] at hr
      simp only [laws_heldIntS.l0]
      rw [if_pos (by omega), if_pos (by omega), hr, if_pos rfl, wr (by omega) (by omega)]
      have := ih (m + 1) ⟨by omega, by omega, h6⟩
      rw [this]
      congr 1
      omega)
    (fun k m hm hI => by
      simp only [laws_heldIntS.l0]
      rw [if_neg (by omega)]
      simp) k hk 1 ⟨by omega, by omega, by simp⟩
  try dsimp only at L
  unfold laws_heldIntS.f
  rw [L]
  simp


theorem FnExactNeverChosen (l : List S82) (hm : l.length ≤ 9223372036854775807) {g : S82 → Prop} (hg : ∀ y ∈ l, g y) : ∃ k, laws_FnExactNeverChosen.f k l = some true := by
  refine ⟨l.length + 2000, ?_⟩
  unfold laws_FnExactNeverChosen.f
  rw [szRule l 1048576 (by omega) (by omega) hm]
  simp only [Option.bind_some]
  by_cases hb : (1048576 : Int) < l.length
  · rw [if_pos hb, if_pos (by omega)]
  · rw [if_neg hb, if_neg (by omega)]
    have hl : l.length ≤ 1048576 := by omega
    have hc : (l.map cvRule).length = l.length := by simp
    have hf : (nvM (l.map cvRule)).length ≤ l.length := by have := nvL_len (l.map cvRule) ((List.range' 0 360).map (hit (l.map cvRule))) 0 (l.map cvRule).length; unfold nvM; omega
    simp (disch := omega) only [toRuleS_eq, impl_Never_eq, spec_Never_eq, Option.bind_some, eqRuleS_self, eqIntS_self, markRuleS_eq, if_true]
    rw [if_neg (by omega)]
    simp (disch := omega) only [laws_FnExactNeverChosen.j0, Bool.not_true, Bool.false_eq_true, if_false, toRuleS_eq, impl_Never_eq, Option.bind_some, eqRuleS_self, eqIntS_self, markIntS_eq, heldIntS_eq, if_true]
    rw [if_neg (by omega), if_neg (by omega)]

end Go.Proofs.Ytbiolcbejlghmaa.Pure
