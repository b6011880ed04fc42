/- The printed function of the law FnExactLongestBucket answers true, for all arguments, under no condition but that each whole number is one of its kind and that each slice has a length that fits. -/
import Derived.Test.YtbnkgcllfkicjaaQFnExactLongestBucketx3
namespace Go.Proofs.Ytbnkgcllfkicjaa.Pure
open Go.RowKit Go.Proofs.Ytbnkgcllfkicjaa.QFnExactLongestBucket Go.Proofs.YtbnkgcllfkicjaaW.PrintWords Go.Proofs.YtbnkgcllfkicjaaW.PrintLast
set_option linter.unusedVariables false
set_option linter.unusedSimpArgs false
theorem wr {i : Int} (h0 : -9223372036854775808 ≤ i) (h1 : i ≤ 9223372036854775807) : wrap64 i = i := by unfold wrap64; omega
theorem beq_dec (a b : Int) : (a == b) = decide (a = b) := by by_cases h : a = b <;> simp [h]
theorem and_if (p : Prop) [Decidable p] (c : Bool) : (if p then some c else some false) = some (decide p && c) := by
  by_cases h : p <;> simp [h]
theorem or_if (p : Prop) [Decidable p] (c : Bool) : (if p then some true else some c) = some (decide p || c) := by
  by_cases h : p <;> simp [h]
def inR (a b c : Int) : Bool := decide (b ≤ a) && decide (a ≤ c)
def isPat (o s : Int) : Bool := inR o 0 9 && inR s (-1) 9
def isSit (o s : Int) : Bool := inR o 1 9 && inR s 0 9
def mtch (po ps o s : Int) : Bool := isPat po ps && (isSit o s && ((decide (po = 0) || decide (po = o)) && (decide (ps = -1) || decide (ps = s))))
def narr (po ps qo qs : Int) : Bool := isPat po ps && (isPat qo qs && ((decide (qo = 0) || decide (po = qo)) && (decide (qs = -1) || decide (ps = qs))))
def isGra (e po ps k f u : Int) : Bool := inR e 1 5 && (isPat po ps && (inR k 1 4 && (decide (0 ≤ f) && (decide (f ≤ u) && decide (u ≤ 10000)))))
def isLim (e po ps k : Int) : Bool := inR e 0 5 && (isPat po ps && inR k 0 4)
def covr (e po ps k f u : Int) (cl : Bool) (ext o s kind tick : Int) (ck : Bool) : Bool :=
  isGra e po ps k f u && (decide (e = ext) && (decide (k = kind) && (mtch po ps o s && (inR tick f u && (ck || !cl)))))
def isRul (e p po ps s a o b : Int) : Bool :=
  inR e 1 5 && (inR p 1 9 && (isPat po ps && (inR s 0 4 && ((decide (a = 1) || decide (a = 2)) && (decide (o = 0) && decide (b = 0)) || decide (a = 3) && isSit o b))))
def isReq (o s t : Int) : Bool := isSit o s && inR t 1 4
def appl (e p po ps s a o b qo qs qt : Int) : Bool := isRul e p po ps s a o b && (isReq qo qs qt && (mtch po ps qo qs && (decide (s = 0) || decide (s = qt))))
def isLen (e po ps k f u : Int) (cl : Bool) : Bool := isGra e po ps k f u && (decide (po ≠ 0) && (decide (ps ≠ -1) && ((decide (k = 1) || decide (k = 2)) && (decide (u = f + 5) && !cl))))
def isLab (x : Int) : Bool := inR x 0 1022 && decide (Int.tmod x 2 = 0)
def befo (ae ap aa ao ab be bp ba bo bb : Int) : Bool :=
  if ap = bp then (if aa = ba then (if ae = be then (if ao = bo then decide (ab < bb) else decide (ao < bo)) else decide (ae < be)) else decide (aa < ba)) else decide (bp < ap)
def within (e po ps k f u : Int) (cl : Bool) (e' po' ps' k' f' u' : Int) (cl' : Bool) : Bool :=
  isGra e po ps k f u && (isGra e' po' ps' k' f' u' && (decide (e = e') && (decide (k = k') && (narr po ps po' ps' && (decide (f' ≤ f) && (decide (u ≤ u') && (cl || !cl')))))))
theorem take_set1 {α : Type} (s : List α) (i : Nat) (v : α) (h : i < s.length) : (s.set i v).take (i + 1) = s.take i ++ [v] := by
  rw [List.take_succ_eq_append_getElem (by simpa using h), List.take_set, List.set_eq_of_length_le (by simp; omega)]
  simp
theorem loop_up {σ ρ : Type} (g : Nat → σ → Int → Option ρ) (n : Nat) (out : σ → Nat → ρ) (I : σ → Nat → Prop) (hn : n ≤ 9223372036854775806)
    (hstep : ∀ (k : Nat) (s : σ) (i : Nat), i < n → I s i → (∀ s', I s' (i + 1) → g k s' (wrap64 ((i : Int) + 1)) = some (out s' (i + 1))) → g (k + 1) s (i : Int) = some (out s i))
    (hend : ∀ (k : Nat) (s : σ), I s n → g (k + 1) s (n : Int) = some (out s n)) :
    ∀ (d k : Nat) (s : σ) (i : Nat), i + d = n → d < k → I s i → g k s (i : Int) = some (out s i) := by
  intro d
  induction d with
  | zero =>
    intro k s i hi hk hI
    obtain ⟨k, rfl⟩ : ∃ m, k = m + 1 := ⟨k - 1, by omega⟩
    obtain rfl : i = n := by omega
    exact hend k s hI
  | succ d ih =>
    intro k s i hi hk hI
    obtain ⟨k, rfl⟩ : ∃ m, k = m + 1 := ⟨k - 1, by omega⟩
    refine hstep k s i (by omega) hI fun s' hI' => ?_
    have := ih k s' (i + 1) (by omega) (by omega) hI'
    rw [wr (by omega) (by omega)]
    exact_mod_cast this
theorem loop_from {σ ρ : Type} {g : Nat → σ → Int → Option ρ} {n : Nat} {out : σ → Nat → ρ} {I : σ → Nat → Prop} (h : ∀ (d k : Nat) (s : σ) (i : Nat), i + d = n → d < k → I s i → g k s (i : Int) = some (out s i))
    (k : Nat) (hk : n < k) (s : σ) (hI : I s 0) : g k s 0 = some (out s 0) := by
  have := h n k s 0 (by omega) hk hI
  exact_mod_cast this
theorem drop_at {α : Type} (xs : List α) (i : Nat) (h : i < xs.length) : xs.drop i = xs[i] :: xs.drop (i + 1) := List.drop_eq_getElem_cons h

theorem nlt {n : Nat} : ¬ (n : Int) < (n : Int) := by omega
/-- where a list is copied element by element into a made one -/
theorem rd_at {α : Type} (z : α) (xs : List α) (i : Nat) (h : i < xs.length) : xs.getD (i : Int).toNat z = xs[i] := by simp [h]

theorem loop_upm {σ ρ : Type} (m : Nat) (g : Nat → σ → Int → Option ρ) (n : Nat) (out : σ → Nat → ρ) (I : σ → Nat → Prop) (hn : n ≤ 9223372036854775806)
    (hstep : ∀ (k : Nat) (s : σ) (i : Nat), m ≤ k → i < n → I s i → (∀ s', I s' (i + 1) → g k s' (wrap64 ((i : Int) + 1)) = some (out s' (i + 1))) → g (k + 1) s (i : Int) = some (out s i))
    (hend : ∀ (k : Nat) (s : σ), m ≤ k → I s n → g (k + 1) s (n : Int) = some (out s n)) :
    ∀ (d k : Nat) (s : σ) (i : Nat), i + d = n → d + m < k → I s i → g k s (i : Int) = some (out s i) := by
  intro d
  induction d with
  | zero =>
    intro k s i hi hk hI
    obtain ⟨k, rfl⟩ : ∃ m, k = m + 1 := ⟨k - 1, by omega⟩
    obtain rfl : i = n := by omega
    exact hend k s (by omega) hI
  | succ d ih =>
    intro k s i hi hk hI
    obtain ⟨k, rfl⟩ : ∃ m, k = m + 1 := ⟨k - 1, by omega⟩
    refine hstep k s i (by omega) (by omega) hI fun s' hI' => ?_
    have := ih k s' (i + 1) (by omega) (by omega) hI'
    rw [wr (by omega) (by omega)]
    exact_mod_cast this
theorem loop_fromm {σ ρ : Type} {m : Nat} {g : Nat → σ → Int → Option ρ} {n : Nat} {out : σ → Nat → ρ} {I : σ → Nat → Prop} (h : ∀ (d k : Nat) (s : σ) (i : Nat), i + d = n → d + m < k → I s i → g k s (i : Int) = some (out s i))
    (k : Nat) (hk : n + m < k) (s : σ) (hI : I s 0) : g k s 0 = some (out s 0) := by
  have := h n k s 0 (by omega) hk hI
  exact_mod_cast this
theorem loop_run {σ ρ : Type} (m : Nat) (g : Nat → σ → Int → Option ρ) (n : Nat) (out : σ → Nat → ρ) (I : σ → Nat → Prop) (hn : n ≤ 9223372036854775806)
    (hstep : ∀ (k : Nat) (s : σ) (i : Nat), m ≤ k → i < n → I s i → (∀ s', I s' (i + 1) → g k s' (wrap64 ((i : Int) + 1)) = some (out s' (i + 1))) → g (k + 1) s (i : Int) = some (out s i))
    (hend : ∀ (k : Nat) (s : σ), m ≤ k → I s n → g (k + 1) s (n : Int) = some (out s n)) (k : Nat) (hk : n + m < k) (s : σ) (hI : I s 0) : g k s 0 = some (out s 0) :=
  loop_fromm (loop_upm m g n out I hn hstep hend) k hk s hI
theorem if_and2 {α : Type} (a : Bool) (p : Prop) [Decidable p] (x y : α) : (if a = true then (if p then x else y) else y) = if (a && decide p) = true then x else y := by
  cases a <;> by_cases h : p <;> simp [h]

theorem if_nand {α : Type} (a b : Bool) (x y : α) : (if a = true then (if b = true then y else x) else x) = if (!(a && b)) = true then x else y := by
  cases a <;> cases b <;> simp
theorem rdPattern_l (xs : List S72) (i : Nat) (h : i < xs.length) : rd_T72 xs (i : Int) = xs[i] := rd_at _ xs i h
theorem rdSite_l (xs : List S24) (i : Nat) (h : i < xs.length) : rd_T24 xs (i : Int) = xs[i] := rd_at _ xs i h
theorem rdRule_l (xs : List S80) (i : Nat) (h : i < xs.length) : rd_T80 xs (i : Int) = xs[i] := rd_at _ xs i h
theorem rdPattern_i (xs : List S66) (i : Nat) (h : i < xs.length) : rd_T66 xs (i : Int) = xs[i] := rd_at _ xs i h
theorem rdSite_i (xs : List S29) (i : Nat) (h : i < xs.length) : rd_T29 xs (i : Int) = xs[i] := rd_at _ xs i h
theorem rdRule_i (xs : List S77) (i : Nat) (h : i < xs.length) : rd_T77 xs (i : Int) = xs[i] := rd_at _ xs i h

theorem szRule (xs : List S80) (a : Int) (h0 : 0 ≤ a) (h1 : a ≤ 1048576) (hl : xs.length ≤ 9223372036854775807) : laws_szRuleS.f xs a = some (if a < xs.length then -1 else a - xs.length) := by
  unfold laws_szRuleS.f
  rw [wr (by omega) (by omega)]
  by_cases h : a < xs.length
  · rw [if_pos (by omega), if_pos h]
  · rw [if_neg (by omega), if_neg h]


theorem szSS_l (q : List (List S80)) (hq : ∀ y ∈ q, y.length ≤ 9223372036854775807) (hn : q.length ≤ 1048576) : ∀ (d k i : Nat) (a : Int), i + d = q.length → d < k → 0 ≤ a → a ≤ 1048576 →
    ∃ z, laws_szRuleSS.l0 k q a (i : Int) = some z ∧ (z < 0 ∨ ∀ y ∈ q.drop i, y.length ≤ 1048576) := by
  intro d
  induction d with
  | zero =>
    intro k i a hi hk h0 h1
    obtain ⟨k, rfl⟩ : ∃ m, k = m + 1 := ⟨k - 1, by omega⟩
    refine ⟨a, ?_, .inr ?_⟩
    · rw [laws_szRuleSS.l0, if_neg (by omega)]
    · rw [List.drop_of_length_le (by omega)]; simp
  | succ d ih =>
    intro k i a hi hk h0 h1
    obtain ⟨k, rfl⟩ : ∃ m, k = m + 1 := ⟨k - 1, by omega⟩
    have hr : rd_L4 q (i : Int) = q[i]'(by omega) := rd_at _ q i (by omega)
    have hl : (q[i]'(by omega)).length ≤ 9223372036854775807 := hq _ (List.getElem_mem _)
    rw [laws_szRuleSS.l0, if_pos (by omega), if_pos (by omega), hr, szRule _ a h0 h1 hl, Option.bind_some, drop_at q i (by omega)]
    by_cases h : a < (q[i]'(by omega)).length
    · rw [if_pos h, if_pos (by decide)]
      exact ⟨-1, rfl, .inl (by decide)⟩
    · rw [if_neg h, if_neg (by omega), wr (by omega) (by omega)]
      obtain ⟨z, e, hz⟩ := ih k (i + 1) (a - (q[i]'(by omega)).length) (by omega) (by omega) (by omega) (by omega)
      refine ⟨z, by exact_mod_cast e, ?_⟩
      rcases hz with hz | hz
      · exact .inl hz
      · refine .inr fun y hy => ?_
        rcases List.mem_cons.1 hy with rfl | hy
        · omega
        · exact hz y hy


theorem szTable (k : Nat) (l : List S80) (q : List (List S80)) (hm : l.length ≤ 9223372036854775807) (hm2 : q.length ≤ 9223372036854775807) (hq : ∀ y ∈ q, y.length ≤ 9223372036854775807) (hk : q.length < k) :
    ∃ z, laws_szTable.f k l q 1048576 = some z ∧ (z < 0 ∨ (l.length ≤ 1048576 ∧ q.length ≤ 1048576 ∧ ∀ y ∈ q, y.length ≤ 1048576)) := by
  unfold laws_szTable.f
  rw [szRule l 1048576 (by omega) (by omega) hm, Option.bind_some]
  by_cases h : (1048576 : Int) < l.length
  · rw [if_pos h, if_pos (by decide)]
    exact ⟨-1, rfl, .inl (by decide)⟩
  · rw [if_neg h, if_neg (by omega)]
    unfold laws_szRuleSS.f
    rw [wr (by omega) (by omega)]
    by_cases h2 : (1048576 : Int) - l.length - q.length < 0
    · rw [if_pos h2, Option.bind_some, if_pos (by decide)]
      exact ⟨-1, rfl, .inl (by decide)⟩
    · rw [if_neg h2]
      obtain ⟨z, e, hz⟩ := szSS_l q hq (by omega) q.length k 0 (1048576 - l.length - q.length) (by omega) hk (by omega) (by omega)
      rw [show ((0 : Nat) : Int) = 0 from rfl] at e
      rw [e, Option.bind_some]
      by_cases h3 : z < 0
      · rw [if_pos h3]; exact ⟨-1, rfl, .inl (by decide)⟩
      · rw [if_neg h3]
        exact ⟨z, rfl, .inr ⟨by omega, by omega, by simpa using hz.resolve_left h3⟩⟩

theorem toSite_eq (a0 : Int) (a1 : Int) : laws_toSite.f a0 a1 = some (a0, a1) := by
  unfold laws_toSite.f; rfl

theorem toRule_eq (a0 : Int) (a1 : Int) (a2 : Int) (a3 : Int) (a4 : Int) (a5 : Int) (a6 : Int) (a7 : Int) : laws_toRule.f a0 a1 a2 a3 a4 a5 a6 a7 = some (a0, a1, a2, a3, a4, a5, a6, a7) := by
  unfold laws_toRule.f laws_toPattern.f laws_toSite.f; rfl

def cvRule (r : S80) : S77 := ⟨r.f0, r.f1, ⟨r.f2.f0, r.f2.f1⟩, r.f3, r.f4, ⟨r.f5.f0, r.f5.f1⟩⟩
theorem toRuleS_eq (k : Nat) (xs : List S80) (hn : xs.length ≤ 1048576) (hk : xs.length < k) : laws_toRuleS.f k xs = some (xs.map cvRule) := by
  have L := loop_up (fun k (s : List S77) i => laws_toRuleS.l0 k xs s i) xs.length (fun s i => s.take i ++ (xs.drop i).map cvRule) (fun s _ => s.length = xs.length) (by omega)
    (fun k s i hi hI ih => by
      simp only [laws_toRuleS.l0]
      rw [if_pos (by omega), if_pos (by omega), rdRule_l xs i hi, toRule_eq]
      simp only [Option.bind_some]
      rw [if_pos (by omega), ih _ (by simp [hI]), Int.toNat_natCast, take_set1 _ _ _ (by omega), drop_at xs i hi, List.map_cons, List.append_assoc]
      rfl)
    (fun k s hI => by
      simp only [laws_toRuleS.l0]
      rw [if_neg nlt, List.drop_of_length_le (Nat.le_refl _), List.take_of_length_le (by omega)]
      simp)
  unfold laws_toRuleS.f
  rw [if_pos (by omega), if_pos (by omega)]
  rw [loop_from L k hk _ (by simp)]
  simp


theorem toRuleSS_eq (k : Nat) (q : List (List S80)) (hn : q.length ≤ 1048576) (hq : ∀ y ∈ q, y.length ≤ 1048576) (hk : q.length + 1048577 < k) : laws_toRuleSS.f k q = some (q.map (List.map cvRule)) := by
  have L := loop_run 1048577 (fun k (s : List (List S77)) i => laws_toRuleSS.l0 k q s i) q.length (fun s i => s.take i ++ (q.drop i).map (List.map cvRule)) (fun s i => s.length = q.length) (by omega)
    (fun k s i hm hi hI ih => by
      have hr : rd_L4 q (i : Int) = q[i] := rd_at _ q i hi
      have hl : (q[i]).length ≤ 1048576 := hq _ (List.getElem_mem _)
      simp only [laws_toRuleSS.l0]
      rw [if_pos (by omega), if_pos (by omega), hr, toRuleS_eq k _ hl (by omega), Option.bind_some, if_pos (by omega), Int.toNat_natCast, ih _ (by simpa using hI), take_set1 _ _ _ (by omega), drop_at q i hi, List.append_assoc, List.map_cons]
      rfl)
    (fun k s hm hI => by
      simp only [laws_toRuleSS.l0]
      rw [if_neg (by omega), List.drop_of_length_le (by omega), List.take_of_length_le (by omega)]
      simp) k hk (List.replicate q.length []) (by simp)
  unfold laws_toRuleSS.f
  rw [if_pos (by omega), Int.toNat_natCast, if_pos (by omega)]
  simpa using L


theorem toTable_eq (k : Nat) (l : List S80) (q : List (List S80)) (hl : l.length ≤ 1048576) (hn : q.length ≤ 1048576) (hq : ∀ y ∈ q, y.length ≤ 1048576) (hk : q.length + 1048577 < k) : laws_toTable.f k l q = some (l.map cvRule, q.map (List.map cvRule)) := by
  unfold laws_toTable.f
  rw [toRuleS_eq k l hl (by omega), Option.bind_some, toRuleSS_eq k q hn hq hk, Option.bind_some]

theorem eqSite_self (a0 : Int) (a1 : Int) : laws_eqSite.f a0 a1 a0 a1 = some true := by
  simp [laws_eqSite.f]

theorem eqRule_self (a0 : Int) (a1 : Int) (a2 : Int) (a3 : Int) (a4 : Int) (a5 : Int) (a6 : Int) (a7 : Int) : laws_eqRule.f a0 a1 a2 a3 a4 a5 a6 a7 a0 a1 a2 a3 a4 a5 a6 a7 = some true := by
  simp [laws_eqRule.f, laws_eqPattern.f, laws_eqSite.f]

theorem eqRuleS_self (k : Nat) (xs : List S77) (hn : xs.length ≤ 1048576) (hk : xs.length < k) : laws_eqRuleS.f k xs xs = some true := by
  have L := loop_up (fun k (_ : Unit) i => laws_eqRuleS.l0 k xs xs i) xs.length (fun _ _ => true) (fun _ _ => True) (by omega)
    (fun k s i hi hI ih => by
      simp only [laws_eqRuleS.l0]
      rw [if_pos (by omega), if_pos (by omega), if_pos (by omega)]
      simp only [eqRule_self, Option.bind_some, if_true]
      exact ih () trivial)
    (fun k s hI => by
      simp only [laws_eqRuleS.l0]
      rw [if_neg nlt])
  unfold laws_eqRuleS.f
  rw [if_pos rfl]
  exact loop_from L k hk () trivial


theorem eqRuleSS_self (k : Nat) (q : List (List S77)) (hn : q.length ≤ 1048576) (hq : ∀ y ∈ q, y.length ≤ 1048576) (hk : q.length + 1048577 < k) : laws_eqRuleSS.f k q q = some true := by
  have L := loop_run 1048577 (fun k (_ : Unit) i => laws_eqRuleSS.l0 k q q i) q.length (fun _ _ => true) (fun _ _ => True) (by omega)
    (fun k s i hm hi hI ih => by
      have hr : rd_L8 q (i : Int) = q[i] := rd_at _ q i hi
      have hl : (q[i]).length ≤ 1048576 := hq _ (List.getElem_mem _)
      simp only [laws_eqRuleSS.l0]
      rw [if_pos (by omega), if_pos (by omega), if_pos (by omega), hr, eqRuleS_self k _ hl (by omega), Option.bind_some, if_pos rfl]
      exact ih () trivial)
    (fun k s hm hI => by
      simp only [laws_eqRuleSS.l0]
      rw [if_neg nlt]) k hk () trivial
  try dsimp only at L
  unfold laws_eqRuleSS.f
  rw [if_pos rfl, L]


theorem eqTable_self (k : Nat) (l : List S77) (q : List (List S77)) (hl : l.length ≤ 1048576) (hn : q.length ≤ 1048576) (hq : ∀ y ∈ q, y.length ≤ 1048576) (hk : q.length + 1048577 < k) : laws_eqTable.f k l q l q = some true := by
  unfold laws_eqTable.f
  rw [eqRuleS_self k l hl (by omega), Option.bind_some, if_pos rfl, eqRuleSS_self k q hn hq hk, Option.bind_some, if_pos rfl]

theorem sMax (a b : Int) : spec_Max.f a b = some (mx a b) := by
  unfold spec_Max.f mx; split <;> congr 1 <;> omega


theorem spMax (a b : Int) : spec_Max.f a b = some (mx a b) := by
  unfold spec_Max.f mx
  by_cases h : b > a
  · rw [if_pos h, if_pos h]
  · rw [if_neg h, if_neg h]

theorem LongestBucket_same (A : List S77) (B : List (List S77)) (hB : B.length ≤ 1048576) : ∀ (d k i : Nat) (x : Int), i + d = B.length → d < k → ∃ z, spec_LongestBucket.l0 k x (i : Int) A B = some z ∧ impl_LongestBucket.l0 k x B (B.length : Int) (i : Int) A B = some z := by
  intro d
  induction d with
  | zero =>
    intro k i x hi hk
    obtain ⟨k, rfl⟩ : ∃ m, k = m + 1 := ⟨k - 1, by omega⟩
    rw [spec_LongestBucket.l0, impl_LongestBucket.l0, if_neg (by omega), if_neg (by omega)]
    exact ⟨_, rfl, by rw [Int.add_comm]⟩
  | succ d ih =>
    intro k i x hi hk
    obtain ⟨k, rfl⟩ : ∃ m, k = m + 1 := ⟨k - 1, by omega⟩
    rw [spec_LongestBucket.l0, impl_LongestBucket.l0, if_pos (by omega), if_pos (by omega), if_pos (by omega), if_pos (by omega), if_pos (by omega), wr (i := (i : Int) + 1) (by omega) (by omega), spMax, Option.bind_some]
    exact_mod_cast ih k (i + 1) _ (by omega) (by omega)


theorem FnExactLongestBucket (l : List S80) (q : List (List S80)) (hm : l.length ≤ 9223372036854775807) {g : S80 → Prop} (hg : ∀ y ∈ l, g y) (hm2 : q.length ≤ 9223372036854775807) {g2 : S80 → Prop} (hg2 : ∀ y ∈ q, y.length ≤ 9223372036854775807 ∧ ∀ z ∈ y, g2 z) : ∃ k, laws_FnExactLongestBucket.f k l q = some true := by
  obtain ⟨K, hK⟩ : ∃ K, K = q.length + l.length + 3000000 := ⟨_, rfl⟩
  refine ⟨K, ?_⟩
  unfold laws_FnExactLongestBucket.f
  obtain ⟨z, hz, hs⟩ := szTable K l q hm hm2 (fun y hy => (hg2 y hy).1) (by omega)
  rw [hz, Option.bind_some]
  by_cases h : z < 0
  · rw [if_pos h]
  · obtain ⟨hl, hn, hq⟩ := hs.resolve_left h
    have hn' : (q.map (List.map cvRule)).length = q.length := by simp
    have hl' : (l.map cvRule).length = l.length := by simp
    have hq' : ∀ y ∈ q.map (List.map cvRule), y.length ≤ 1048576 := by
      intro y hy
      obtain ⟨x, hx, rfl⟩ := List.mem_map.1 hy
      simpa using hq x hx
    obtain ⟨v, h1, h2⟩ := LongestBucket_same (l.map cvRule) (q.map (List.map cvRule)) (by omega) (q.map (List.map cvRule)).length K 0 0 (by omega) (by omega)
    rw [show ((0 : Nat) : Int) = 0 from rfl] at h1 h2
    rw [if_neg h, toTable_eq _ l q hl hn hq (by omega), Option.bind_some]
    unfold spec_LongestBucket.f impl_LongestBucket.f
    simp only [Option.bind_some, h1, h2, if_true]
    rw [eqTable_self _ _ _ (by omega) (by omega) hq' (by omega), Option.bind_some, if_pos rfl]

end Go.Proofs.Ytbnkgcllfkicjaa.Pure
