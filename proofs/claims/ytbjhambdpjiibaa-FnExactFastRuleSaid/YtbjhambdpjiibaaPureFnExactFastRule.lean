/- The printed function of the law FnExactFastRule answers true, for all arguments, under no condition but that each whole number is one of its kind and that each slice has a length that fits. -/
import Derived.Test.YtbjhambdpjiibaaQGx42
namespace Go.Proofs.Ytbjhambdpjiibaa.Pure
open Go.RowKit Go.Proofs.Ytbjhambdpjiibaa.QG Go.Proofs.YtbjhambdpjiibaaW.PrintWords Go.Proofs.YtbjhambdpjiibaaW.PrintLast
set_option linter.unusedVariables false
set_option linter.unusedSimpArgs false
theorem wr {i : Int} (h0 : -9223372036854775808 ≤ i) (h1 : i ≤ 9223372036854775807) : wrap64 i = i := by unfold wrap64; omega
theorem beq_dec (a b : Int) : (a == b) = decide (a = b) := by by_cases h : a = b <;> simp [h]
theorem and_if (p : Prop) [Decidable p] (c : Bool) : (if p then some c else some false) = some (decide p && c) := by
  by_cases h : p <;> simp [h]
theorem or_if (p : Prop) [Decidable p] (c : Bool) : (if p then some true else some c) = some (decide p || c) := by
  by_cases h : p <;> simp [h]
def inR (a b c : Int) : Bool := decide (b ≤ a) && decide (a ≤ c)
def isPat (o s : Int) : Bool := inR o 0 9 && inR s (-1) 9
def isSit (o s : Int) : Bool := inR o 1 9 && inR s 0 9
def mtch (po ps o s : Int) : Bool := isPat po ps && (isSit o s && ((decide (po = 0) || decide (po = o)) && (decide (ps = -1) || decide (ps = s))))
def narr (po ps qo qs : Int) : Bool := isPat po ps && (isPat qo qs && ((decide (qo = 0) || decide (po = qo)) && (decide (qs = -1) || decide (ps = qs))))
def isGra (e po ps k f u : Int) : Bool := inR e 1 5 && (isPat po ps && (inR k 1 4 && (decide (0 ≤ f) && (decide (f ≤ u) && decide (u ≤ 10000)))))
def isLim (e po ps k : Int) : Bool := inR e 0 5 && (isPat po ps && inR k 0 4)
def covr (e po ps k f u : Int) (cl : Bool) (ext o s kind tick : Int) (ck : Bool) : Bool :=
  isGra e po ps k f u && (decide (e = ext) && (decide (k = kind) && (mtch po ps o s && (inR tick f u && (ck || !cl)))))
def isRul (e p po ps s a o b : Int) : Bool :=
  inR e 1 5 && (inR p 1 9 && (isPat po ps && (inR s 0 4 && ((decide (a = 1) || decide (a = 2)) && (decide (o = 0) && decide (b = 0)) || decide (a = 3) && isSit o b))))
def isReq (o s t : Int) : Bool := isSit o s && inR t 1 4
def appl (e p po ps s a o b qo qs qt : Int) : Bool := isRul e p po ps s a o b && (isReq qo qs qt && (mtch po ps qo qs && (decide (s = 0) || decide (s = qt))))
def isLen (e po ps k f u : Int) (cl : Bool) : Bool := isGra e po ps k f u && (decide (po ≠ 0) && (decide (ps ≠ -1) && ((decide (k = 1) || decide (k = 2)) && (decide (u = f + 5) && !cl))))
def isLab (x : Int) : Bool := inR x 0 1022 && decide (Int.tmod x 2 = 0)
def befo (ae ap aa ao ab be bp ba bo bb : Int) : Bool :=
  if ap = bp then (if aa = ba then (if ae = be then (if ao = bo then decide (ab < bb) else decide (ao < bo)) else decide (ae < be)) else decide (aa < ba)) else decide (bp < ap)
def within (e po ps k f u : Int) (cl : Bool) (e' po' ps' k' f' u' : Int) (cl' : Bool) : Bool :=
  isGra e po ps k f u && (isGra e' po' ps' k' f' u' && (decide (e = e') && (decide (k = k') && (narr po ps po' ps' && (decide (f' ≤ f) && (decide (u ≤ u') && (cl || !cl')))))))
theorem take_set1 {α : Type} (s : List α) (i : Nat) (v : α) (h : i < s.length) : (s.set i v).take (i + 1) = s.take i ++ [v] := by
  rw [List.take_succ_eq_append_getElem (by simpa using h), List.take_set, List.set_eq_of_length_le (by simp; omega)]
  simp
theorem loop_up {σ ρ : Type} (g : Nat → σ → Int → Option ρ) (n : Nat) (out : σ → Nat → ρ) (I : σ → Nat → Prop) (hn : n ≤ 9223372036854775806)
    (hstep : ∀ (k : Nat) (s : σ) (i : Nat), i < n → I s i → (∀ s', I s' (i + 1) → g k s' (wrap64 ((i : Int) + 1)) = some (out s' (i + 1))) → g (k + 1) s (i : Int) = some (out s i))
    (hend : ∀ (k : Nat) (s : σ), I s n → g (k + 1) s (n : Int) = some (out s n)) :
    ∀ (d k : Nat) (s : σ) (i : Nat), i + d = n → d < k → I s i → g k s (i : Int) = some (out s i) := by
  intro d
  induction d with
  | zero =>
    intro k s i hi hk hI
    obtain ⟨k, rfl⟩ : ∃ m, k = m + 1 := ⟨k - 1, by omega⟩
    obtain rfl : i = n := by omega
    exact hend k s hI
  | succ d ih =>
    intro k s i hi hk hI
    obtain ⟨k, rfl⟩ : ∃ m, k = m + 1 := ⟨k - 1, by omega⟩
    refine hstep k s i (by omega) hI fun s' hI' => ?_
    have := ih k s' (i + 1) (by omega) (by omega) hI'
    rw [wr (by omega) (by omega)]
    exact_mod_cast this
theorem loop_from {σ ρ : Type} {g : Nat → σ → Int → Option ρ} {n : Nat} {out : σ → Nat → ρ} {I : σ → Nat → Prop} (h : ∀ (d k : Nat) (s : σ) (i : Nat), i + d = n → d < k → I s i → g k s (i : Int) = some (out s i))
    (k : Nat) (hk : n < k) (s : σ) (hI : I s 0) : g k s 0 = some (out s 0) := by
  have := h n k s 0 (by omega) hk hI
  exact_mod_cast this
theorem drop_at {α : Type} (xs : List α) (i : Nat) (h : i < xs.length) : xs.drop i = xs[i] :: xs.drop (i + 1) := List.drop_eq_getElem_cons h

theorem nlt {n : Nat} : ¬ (n : Int) < (n : Int) := by omega
/-- where a list is copied element by element into a made one -/
theorem rd_at {α : Type} (z : α) (xs : List α) (i : Nat) (h : i < xs.length) : xs.getD (i : Int).toNat z = xs[i] := by simp [h]

theorem loop_upm {σ ρ : Type} (m : Nat) (g : Nat → σ → Int → Option ρ) (n : Nat) (out : σ → Nat → ρ) (I : σ → Nat → Prop) (hn : n ≤ 9223372036854775806)
    (hstep : ∀ (k : Nat) (s : σ) (i : Nat), m ≤ k → i < n → I s i → (∀ s', I s' (i + 1) → g k s' (wrap64 ((i : Int) + 1)) = some (out s' (i + 1))) → g (k + 1) s (i : Int) = some (out s i))
    (hend : ∀ (k : Nat) (s : σ), m ≤ k → I s n → g (k + 1) s (n : Int) = some (out s n)) :
    ∀ (d k : Nat) (s : σ) (i : Nat), i + d = n → d + m < k → I s i → g k s (i : Int) = some (out s i) := by
  intro d
  induction d with
  | zero =>
    intro k s i hi hk hI
    obtain ⟨k, rfl⟩ : ∃ m, k = m + 1 := ⟨k - 1, by omega⟩
    obtain rfl : i = n := by omega
    exact hend k s (by omega) hI
  | succ d ih =>
    intro k s i hi hk hI
    obtain ⟨k, rfl⟩ : ∃ m, k = m + 1 := ⟨k - 1, by omega⟩
    refine hstep k s i (by omega) (by omega) hI fun s' hI' => ?_
    have := ih k s' (i + 1) (by omega) (by omega) hI'
    rw [wr (by omega) (by omega)]
    exact_mod_cast this
theorem loop_fromm {σ ρ : Type} {m : Nat} {g : Nat → σ → Int → Option ρ} {n : Nat} {out : σ → Nat → ρ} {I : σ → Nat → Prop} (h : ∀ (d k : Nat) (s : σ) (i : Nat), i + d = n → d + m < k → I s i → g k s (i : Int) = some (out s i))
    (k : Nat) (hk : n + m < k) (s : σ) (hI : I s 0) : g k s 0 = some (out s 0) := by
  have := h n k s 0 (by omega) hk hI
  exact_mod_cast this
theorem loop_run {σ ρ : Type} (m : Nat) (g : Nat → σ → Int → Option ρ) (n : Nat) (out : σ → Nat → ρ) (I : σ → Nat → Prop) (hn : n ≤ 9223372036854775806)
    (hstep : ∀ (k : Nat) (s : σ) (i : Nat), m ≤ k → i < n → I s i → (∀ s', I s' (i + 1) → g k s' (wrap64 ((i : Int) + 1)) = some (out s' (i + 1))) → g (k + 1) s (i : Int) = some (out s i))
    (hend : ∀ (k : Nat) (s : σ), m ≤ k → I s n → g (k + 1) s (n : Int) = some (out s n)) (k : Nat) (hk : n + m < k) (s : σ) (hI : I s 0) : g k s 0 = some (out s 0) :=
  loop_fromm (loop_upm m g n out I hn hstep hend) k hk s hI
theorem if_and2 {α : Type} (a : Bool) (p : Prop) [Decidable p] (x y : α) : (if a = true then (if p then x else y) else y) = if (a && decide p) = true then x else y := by
  cases a <;> by_cases h : p <;> simp [h]

theorem if_nand {α : Type} (a b : Bool) (x y : α) : (if a = true then (if b = true then y else x) else x) = if (!(a && b)) = true then x else y := by
  cases a <;> cases b <;> simp
theorem rdPattern_l (xs : List S63) (i : Nat) (h : i < xs.length) : rd_T63 xs (i : Int) = xs[i] := rd_at _ xs i h
theorem rdSite_l (xs : List S39) (i : Nat) (h : i < xs.length) : rd_T39 xs (i : Int) = xs[i] := rd_at _ xs i h
theorem rdRule_l (xs : List S65) (i : Nat) (h : i < xs.length) : rd_T65 xs (i : Int) = xs[i] := rd_at _ xs i h
theorem rdPattern_i (xs : List S43) (i : Nat) (h : i < xs.length) : rd_T43 xs (i : Int) = xs[i] := rd_at _ xs i h
theorem rdSite_i (xs : List S44) (i : Nat) (h : i < xs.length) : rd_T44 xs (i : Int) = xs[i] := rd_at _ xs i h
theorem rdRule_i (xs : List S46) (i : Nat) (h : i < xs.length) : rd_T46 xs (i : Int) = xs[i] := rd_at _ xs i h

theorem szRule (xs : List S65) (a : Int) (h0 : 0 ≤ a) (h1 : a ≤ 1048576) (hl : xs.length ≤ 9223372036854775807) : laws_szRuleS.f xs a = some (if a < xs.length then -1 else a - xs.length) := by
  unfold laws_szRuleS.f
  rw [wr (by omega) (by omega)]
  by_cases h : a < xs.length
  · rw [if_pos (by omega), if_pos h]
  · rw [if_neg (by omega), if_neg h]


theorem szSS_l (q : List (List S65)) (hq : ∀ y ∈ q, y.length ≤ 9223372036854775807) (hn : q.length ≤ 1048576) : ∀ (d k i : Nat) (a : Int), i + d = q.length → d < k → 0 ≤ a → a ≤ 1048576 →
    ∃ z, laws_szRuleSS.l0 k q a (i : Int) = some z ∧ (z < 0 ∨ ∀ y ∈ q.drop i, y.length ≤ 1048576) := by
  intro d
  induction d with
  | zero =>
    intro k i a hi hk h0 h1
    obtain ⟨k, rfl⟩ : ∃ m, k = m + 1 := ⟨k - 1, by omega⟩
    refine ⟨a, ?_, .inr ?_⟩
    · rw [laws_szRuleSS.l0, if_neg (by omega)]
    · rw [List.drop_of_length_le (by omega)]; simp
  | succ d ih =>
    intro k i a hi hk h0 h1
    obtain ⟨k, rfl⟩ : ∃ m, k = m + 1 := ⟨k - 1, by omega⟩
    have hr : rd_L4 q (i : Int) = q[i]'(by omega) := rd_at _ q i (by omega)
    have hl : (q[i]'(by omega)).length ≤ 9223372036854775807 := hq _ (List.getElem_mem _)
    rw [laws_szRuleSS.l0, if_pos (by omega), if_pos (by omega), hr, szRule _ a h0 h1 hl, Option.bind_some, drop_at q i (by omega)]
    by_cases h : a < (q[i]'(by omega)).length
    · rw [if_pos h, if_pos (by decide)]
      exact ⟨-1, rfl, .inl (by decide)⟩
    · rw [if_neg h, if_neg (by omega), wr (by omega) (by omega)]
      obtain ⟨z, e, hz⟩ := ih k (i + 1) (a - (q[i]'(by omega)).length) (by omega) (by omega) (by omega) (by omega)
      refine ⟨z, by exact_mod_cast e, ?_⟩
      rcases hz with hz | hz
      · exact .inl hz
      · refine .inr fun y hy => ?_
        rcases List.mem_cons.1 hy with rfl | hy
        · omega
        · exact hz y hy


theorem szTable (k : Nat) (l : List S65) (q : List (List S65)) (hm : l.length ≤ 9223372036854775807) (hm2 : q.length ≤ 9223372036854775807) (hq : ∀ y ∈ q, y.length ≤ 9223372036854775807) (hk : q.length < k) :
    ∃ z, laws_szTable.f k l q 1048576 = some z ∧ (z < 0 ∨ (l.length ≤ 1048576 ∧ q.length ≤ 1048576 ∧ ∀ y ∈ q, y.length ≤ 1048576)) := by
  unfold laws_szTable.f
  rw [szRule l 1048576 (by omega) (by omega) hm, Option.bind_some]
  by_cases h : (1048576 : Int) < l.length
  · rw [if_pos h, if_pos (by decide)]
    exact ⟨-1, rfl, .inl (by decide)⟩
  · rw [if_neg h, if_neg (by omega)]
    unfold laws_szRuleSS.f
    rw [wr (by omega) (by omega)]
    by_cases h2 : (1048576 : Int) - l.length - q.length < 0
    · rw [if_pos h2, Option.bind_some, if_pos (by decide)]
      exact ⟨-1, rfl, .inl (by decide)⟩
    · rw [if_neg h2]
      obtain ⟨z, e, hz⟩ := szSS_l q hq (by omega) q.length k 0 (1048576 - l.length - q.length) (by omega) hk (by omega) (by omega)
      rw [show ((0 : Nat) : Int) = 0 from rfl] at e
      rw [e, Option.bind_some]
      by_cases h3 : z < 0
      · rw [if_pos h3]; exact ⟨-1, rfl, .inl (by decide)⟩
      · rw [if_neg h3]
        exact ⟨z, rfl, .inr ⟨by omega, by omega, by simpa using hz.resolve_left h3⟩⟩

theorem spec_in (a b c : Int) : spec_l1In.f a b c = some (inR a b c) := by
  unfold spec_l1In.f inR; exact and_if _ _

theorem spec_befo (a0 a1 a2 a3 a4 a5 a6 a7 b0 b1 b2 b3 b4 b5 b6 b7 : Int) : spec_IsBefore.f a0 a1 a2 a3 a4 a5 a6 a7 b0 b1 b2 b3 b4 b5 b6 b7 = some (befo a0 a1 a5 a6 a7 b0 b1 b5 b6 b7) := by
  unfold spec_IsBefore.f befo
  by_cases h1 : a1 = b1 <;> by_cases h2 : a5 = b5 <;> by_cases h3 : a0 = b0 <;> by_cases h4 : a6 = b6 <;> simp [h1, h2, h3, h4]

theorem spec_pat (a b : Int) : spec_IsPattern.f a b = some (isPat a b) := by
  unfold spec_IsPattern.f isPat; simp only [spec_in, Option.bind_some]; cases inR a 0 9 <;> simp

theorem spec_sit (a b : Int) : spec_IsSite.f a b = some (isSit a b) := by
  unfold spec_IsSite.f isSit; simp only [spec_in, Option.bind_some]; cases inR a 1 9 <;> simp

theorem spec_req (o s t : Int) : spec_IsRequest.f o s t = some (isReq o s t) := by
  unfold spec_IsRequest.f isReq; simp only [spec_sit, spec_in, Option.bind_some]
  cases isSit o s <;> simp

theorem toSite_eq (a0 : Int) (a1 : Int) : laws_toSite.f a0 a1 = some (a0, a1) := by
  unfold laws_toSite.f; rfl

theorem toRule_eq (a0 : Int) (a1 : Int) (a2 : Int) (a3 : Int) (a4 : Int) (a5 : Int) (a6 : Int) (a7 : Int) : laws_toRule.f a0 a1 a2 a3 a4 a5 a6 a7 = some (a0, a1, a2, a3, a4, a5, a6, a7) := by
  unfold laws_toRule.f laws_toPattern.f laws_toSite.f; rfl

def cvRule (r : S65) : S46 := ⟨r.f0, r.f1, ⟨r.f2.f0, r.f2.f1⟩, r.f3, r.f4, ⟨r.f5.f0, r.f5.f1⟩⟩
theorem toRuleS_eq (k : Nat) (xs : List S65) (hn : xs.length ≤ 1048576) (hk : xs.length < k) : laws_toRuleS.f k xs = some (xs.map cvRule) := by
  have L := loop_up (fun k (s : List S46) i => laws_toRuleS.l0 k xs s i) xs.length (fun s i => s.take i ++ (xs.drop i).map cvRule) (fun s _ => s.length = xs.length) (by omega)
    (fun k s i hi hI ih => by
      simp only [laws_toRuleS.l0]
      rw [if_pos (by omega), if_pos (by omega), rdRule_l xs i hi, toRule_eq]
      simp only [Option.bind_some]
      rw [if_pos (by omega), ih _ (by simp [hI]), Int.toNat_natCast, take_set1 _ _ _ (by omega), drop_at xs i hi, List.map_cons, List.append_assoc]
      rfl)
    (fun k s hI => by
      simp only [laws_toRuleS.l0]
      rw [if_neg nlt, List.drop_of_length_le (Nat.le_refl _), List.take_of_length_le (by omega)]
      simp)
  unfold laws_toRuleS.f
  rw [if_pos (by omega), if_pos (by omega)]
  rw [loop_from L k hk _ (by simp)]
  simp


theorem toRuleSS_eq (k : Nat) (q : List (List S65)) (hn : q.length ≤ 1048576) (hq : ∀ y ∈ q, y.length ≤ 1048576) (hk : q.length + 1048577 < k) : laws_toRuleSS.f k q = some (q.map (List.map cvRule)) := by
  have L := loop_run 1048577 (fun k (s : List (List S46)) i => laws_toRuleSS.l0 k q s i) q.length (fun s i => s.take i ++ (q.drop i).map (List.map cvRule)) (fun s i => s.length = q.length) (by omega)
    (fun k s i hm hi hI ih => by
      have hr : rd_L4 q (i : Int) = q[i] := rd_at _ q i hi
      have hl : (q[i]).length ≤ 1048576 := hq _ (List.getElem_mem _)
      simp only [laws_toRuleSS.l0]
      rw [if_pos (by omega), if_pos (by omega), hr, toRuleS_eq k _ hl (by omega), Option.bind_some, if_pos (by omega), Int.toNat_natCast, ih _ (by simpa using hI), take_set1 _ _ _ (by omega), drop_at q i hi, List.append_assoc, List.map_cons]
      rfl)
    (fun k s hm hI => by
      simp only [laws_toRuleSS.l0]
      rw [if_neg (by omega), List.drop_of_length_le (by omega), List.take_of_length_le (by omega)]
      simp) k hk (List.replicate q.length []) (by simp)
  unfold laws_toRuleSS.f
  rw [if_pos (by omega), Int.toNat_natCast, if_pos (by omega)]
  simpa using L


theorem toTable_eq (k : Nat) (l : List S65) (q : List (List S65)) (hl : l.length ≤ 1048576) (hn : q.length ≤ 1048576) (hq : ∀ y ∈ q, y.length ≤ 1048576) (hk : q.length + 1048577 < k) : laws_toTable.f k l q = some (l.map cvRule, q.map (List.map cvRule)) := by
  unfold laws_toTable.f
  rw [toRuleS_eq k l hl (by omega), Option.bind_some, toRuleSS_eq k q hn hq hk, Option.bind_some]

theorem or5 (n : Nat) (a b c d e : Int) : cmp_Or_int.f (n + 6) [a, b, c, d, e] = some (if a = 0 then (if b = 0 then (if c = 0 then (if d = 0 then e else d) else c) else b) else a) := by
  have w0 : wrap64 (0 + 1) = 1 := wr (by omega) (by omega)
  have w1 : wrap64 (1 + 1) = 2 := wr (by omega) (by omega)
  have w2 : wrap64 (2 + 1) = 3 := wr (by omega) (by omega)
  have w3 : wrap64 (3 + 1) = 4 := wr (by omega) (by omega)
  have w4 : wrap64 (4 + 1) = 5 := wr (by omega) (by omega)
  unfold cmp_Or_int.f
  simp only [cmp_Or_int.l0, w0, w1, w2, w3, w4]
  by_cases h1 : a = 0 <;> by_cases h2 : b = 0 <;> by_cases h3 : c = 0 <;> by_cases h4 : d = 0 <;> by_cases h5 : e = 0 <;> simp [h1, h2, h3, h4, h5, rd]

theorem cmp_eq (a b : Int) : cmp_Compare_int.f a b = some (if a < b then -1 else if a > b then 1 else 0) := by
  unfold cmp_Compare_int.f cmp_isNaN_int.f; simp only [Option.bind_some, bne_self_eq_false]
  by_cases h1 : a < b <;> by_cases h2 : a > b <;> simp [h1, h2]

theorem impl_in (a b c : Int) : impl_InRange.f a b c = some (inR a b c) := by
  unfold impl_InRange.f inR; exact and_if _ _

theorem impl_pat (a b : Int) : impl_IsPattern.f a b = some (isPat a b) := by
  unfold impl_IsPattern.f isPat; simp only [impl_in, Option.bind_some]; cases inR a 0 9 <;> simp

theorem impl_sit (a b : Int) : impl_IsSite.f a b = some (isSit a b) := by
  unfold impl_IsSite.f isSit; simp only [impl_in, Option.bind_some]; cases inR a 1 9 <;> simp

theorem impl_req (o s t : Int) : impl_IsRequest.f o s t = some (isReq o s t) := by
  unfold impl_IsRequest.f isReq; simp only [impl_sit, impl_in, Option.bind_some]
  cases isSit o s <;> simp

theorem eqSite_self (a0 : Int) (a1 : Int) : laws_eqSite.f a0 a1 a0 a1 = some true := by
  simp [laws_eqSite.f]

theorem spec_mtch (a b c d : Int) : spec_MatchSite.f a b c d = some (mtch a b c d) := by
  unfold spec_MatchSite.f mtch; simp only [spec_pat, spec_sit, Option.bind_some]
  cases isPat a b <;> cases isSit c d <;> simp
  by_cases h1 : a = 0 <;> by_cases h2 : a = c <;> by_cases h3 : b = -1 <;> simp [h1, h2, h3] <;> simp [beq_dec]

theorem spec_rul (e p po ps s a o b : Int) : spec_IsRule.f e p po ps s a o b = some (isRul e p po ps s a o b) := by
  unfold spec_IsRule.f isRul; simp only [spec_in, spec_pat, Option.bind_some, spec_sit]
  cases inR e 1 5 <;> cases inR p 1 9 <;> cases isPat po ps <;> cases inR s 0 4 <;> simp
  by_cases h1 : a = 1
  · subst h1; simp [beq_dec, inR]
  · by_cases h2 : a = 2
    · subst h2; simp [beq_dec, inR]
    · by_cases h3 : a = 3
      · subst h3; cases isSit o b <;> simp [inR]
      · have : inR a 1 3 = false := by unfold inR; simp; omega
        simp [h1, h2, h3, this]

theorem spec_appl (e p po ps s a o b qo qs qt : Int) : spec_Applies.f e p po ps s a o b qo qs qt = some (appl e p po ps s a o b qo qs qt) := by
  unfold spec_Applies.f appl; simp only [spec_rul, spec_req, spec_mtch, Option.bind_some]
  cases isRul e p po ps s a o b <;> cases isReq qo qs qt <;> cases mtch po ps qo qs <;> by_cases h : s = 0 <;> simp [h, beq_dec]


def fir (qo qs qt : Int) : List S46 → Nat → Int
  | [], _ => -1
  | r :: xs, i => if appl r.f0 r.f1 r.f2.f0 r.f2.f1 r.f3 r.f4 r.f5.f0 r.f5.f1 qo qs qt = true then (i : Int) else fir qo qs qt xs (i + 1)
theorem fir_range (qo qs qt : Int) : ∀ (xs : List S46) (i : Nat), -1 ≤ fir qo qs qt xs i ∧ fir qo qs qt xs i < ((i + xs.length : Nat) : Int)
  | [], i => by unfold fir; omega
  | r :: xs, i => by
    have := fir_range qo qs qt xs (i + 1)
    unfold fir
    split
    · simp only [List.length_cons]; omega
    · simp only [List.length_cons]; omega
def tupR (r : S46) : Int × Int × Int × Int × Int × Int × Int × Int × Bool := (r.f0, r.f1, r.f2.f0, r.f2.f1, r.f3, r.f4, r.f5.f0, r.f5.f1, true)
def befR (r s : S46) : Bool := befo r.f0 r.f1 r.f4 r.f5.f0 r.f5.f1 s.f0 s.f1 s.f4 s.f5.f0 s.f5.f1
def pickM (A C : List S46) (a b : Int) : Int × Int × Int × Int × Int × Int × Int × Int × Bool :=
  if b < 0 then (if a < 0 then (0, 0, 0, 0, 0, 0, 0, 0, false) else tupR (rd_T46 A a)) else
  if a < 0 then tupR (rd_T46 C b) else if befR (rd_T46 C b) (rd_T46 A a) = true then tupR (rd_T46 C b) else tupR (rd_T46 A a)
def fastM (A : List S46) (B : List (List S46)) (qo qs qt : Int) : Int × Int × Int × Int × Int × Int × Int × Int × Bool :=
  pickM A (rd_L8 B (qo - 1)) (fir qo qs qt A 0) (if 1 ≤ qo ∧ qo ≤ B.length then fir qo qs qt (rd_L8 B (qo - 1)) 0 else -1)

theorem spec_first (k : Nat) (xs : List S46) (qo qs qt : Int) (hn : xs.length ≤ 1048576) (hk : xs.length < k) : spec_l15First.f k xs qo qs qt = some (fir qo qs qt xs 0) := by
  have L := loop_run 0 (fun k (_ : Unit) i => spec_l15First.l0 k xs i qo qs qt) xs.length (fun _ i => fir qo qs qt (xs.drop i) i) (fun _ _ => True) (by omega)
    (fun k u_ i hm hi hI ih => by
      have hd := drop_at xs i hi
      have hr := rdRule_i xs i hi
      generalize xs[i] = r at hd hr
      have ih' := ih () trivial
      try dsimp only at ih'
      simp only [spec_l15First.l0]
      rw [if_pos (by omega), if_pos (by omega)]
      simp only [hr]
      rw [spec_appl, Option.bind_some, ih', hd]
      simp only [fir]
      split <;> rfl)
    (fun k u_ hm hI => by
      simp only [spec_l15First.l0]
      rw [if_neg nlt, List.drop_of_length_le (Nat.le_refl _)]
      rfl) k hk () trivial
  try dsimp only at L
  unfold spec_l15First.f
  rw [L, List.drop_zero]


theorem spec_pick (k : Nat) (A : List S46) (B : List (List S46)) (qo qs qt a b : Int) (ha : -1 ≤ a ∧ a < A.length) (hw : b < 0 ∨ (0 ≤ qo - 1 ∧ qo - 1 < B.length ∧ b < (rd_L8 B (qo - 1)).length ∧ B.length ≤ 1048576)) (hk : 3 < k) :
    spec_FastRule.j0 k a b A B qo qs qt = some (pickM A (rd_L8 B (qo - 1)) a b) := by
  obtain ⟨k, rfl⟩ : ∃ m, k = m + 2 := ⟨k - 2, by omega⟩
  unfold pickM
  by_cases ha0 : a < 0
  · by_cases hb0 : b < 0
    · simp only [spec_FastRule.j0, spec_FastRule.j1, if_pos ha0, if_pos hb0, decide_eq_true hb0, if_true]
    · obtain ⟨w1, w2, w3, w4⟩ := hw.resolve_left hb0
      have e : wrap64 (qo - 1) = qo - 1 := wr (by omega) (by omega)
      have hb1 : 0 ≤ b := by omega
      have ha1 : ¬ a ≥ 0 := by omega
      simp only [spec_FastRule.j0, spec_FastRule.j1, if_pos ha0, if_neg hb0, decide_eq_false hb0, Bool.false_eq_true, if_false, if_neg ha1, e, if_pos w1, if_pos w2, if_pos hb1, if_pos w3, tupR]
  · have ha1 : 0 ≤ a := by omega
    have ha2 : a < (A.length : Int) := ha.2
    have ha3 : a ≥ 0 := ha1
    by_cases hb0 : b < 0
    · simp only [spec_FastRule.j0, spec_FastRule.j1, if_neg ha0, if_pos hb0, Bool.false_eq_true, if_false, if_pos ha1, if_pos ha2, tupR]
    · obtain ⟨w1, w2, w3, w4⟩ := hw.resolve_left hb0
      have e : wrap64 (qo - 1) = qo - 1 := wr (by omega) (by omega)
      have hb1 : 0 ≤ b := by omega
      simp only [spec_FastRule.j0, spec_FastRule.j1, if_neg ha0, if_neg hb0, Bool.false_eq_true, if_false, if_pos ha3, if_pos ha1, if_pos ha2, e, if_pos w1, if_pos w2, if_pos hb1, if_pos w3, spec_befo, Option.bind_some]
      change (if befR (rd_T46 (rd_L8 B (qo - 1)) b) (rd_T46 A a) = true then some (tupR (rd_T46 (rd_L8 B (qo - 1)) b)) else some (tupR (rd_T46 A a))) = some (if befR (rd_T46 (rd_L8 B (qo - 1)) b) (rd_T46 A a) = true then tupR (rd_T46 (rd_L8 B (qo - 1)) b) else tupR (rd_T46 A a))
      cases befR (rd_T46 (rd_L8 B (qo - 1)) b) (rd_T46 A a) <;> rfl
theorem rdL8_len (B : List (List S46)) (hq : ∀ y ∈ B, y.length ≤ 1048576) (x : Int) : (rd_L8 B x).length ≤ 1048576 := by
  unfold rd_L8
  rw [List.getD_eq_getElem?_getD]
  cases h : B[x.toNat]? with
  | none => simp
  | some y => simpa using hq y (List.mem_of_getElem? h)
theorem spec_Fast_eq (k : Nat) (A : List S46) (B : List (List S46)) (qo qs qt : Int) (hA : A.length ≤ 1048576) (hB : B.length ≤ 1048576) (hq : ∀ y ∈ B, y.length ≤ 1048576) (hk : 1048600 < k) : spec_FastRule.f k A B qo qs qt = some (fastM A B qo qs qt) := by
  have hC := rdL8_len B hq (qo - 1)
  have r1 := fir_range qo qs qt A 0
  have r2 := fir_range qo qs qt (rd_L8 B (qo - 1)) 0
  unfold spec_FastRule.f fastM
  rw [spec_first k A qo qs qt hA (by omega), Option.bind_some, spec_in, Option.bind_some]
  by_cases h : 1 ≤ qo ∧ qo ≤ B.length
  · have hi : inR qo 1 (B.length : Int) = true := by unfold inR; simp; omega
    have e : wrap64 (qo - 1) = qo - 1 := wr (by omega) (by omega)
    rw [if_pos h, hi, if_pos rfl, e, if_pos (by omega), if_pos (by omega), spec_first k _ qo qs qt hC (by omega), Option.bind_some]
    exact spec_pick k A B qo qs qt _ _ (by omega) (Or.inr ⟨by omega, by omega, by omega, hB⟩) (by omega)
  · have hi : inR qo 1 (B.length : Int) = false := by
      rw [Bool.eq_false_iff]; unfold inR; simp; omega
    rw [if_neg h, hi, if_neg (by decide)]
    exact spec_pick k A B qo qs qt _ _ (by omega) (Or.inl (by decide)) (by omega)

theorem impl_befo (n : Nat) (a0 a1 a2 a3 a4 a5 a6 a7 b0 b1 b2 b3 b4 b5 b6 b7 : Int) : impl_IsBefore.f (n + 6) a0 a1 a2 a3 a4 a5 a6 a7 b0 b1 b2 b3 b4 b5 b6 b7 = some (befo a0 a1 a5 a6 a7 b0 b1 b5 b6 b7) := by
  unfold impl_IsBefore.f impl_compareRules.f befo; simp only [cmp_eq, or5, Option.bind_some]
  rcases Int.lt_trichotomy a1 b1 with h | h | h
  · simp [show ¬ b1 < a1 by omega, show b1 > a1 by omega, show ¬ a1 = b1 by omega]
  · subst h
    rcases Int.lt_trichotomy a5 b5 with h | h | h
    · simp [h, show ¬ a5 = b5 by omega]
    · subst h
      rcases Int.lt_trichotomy a0 b0 with h | h | h
      · simp [h, show ¬ a0 = b0 by omega]
      · subst h
        rcases Int.lt_trichotomy a6 b6 with h | h | h
        · simp [h, show ¬ a6 = b6 by omega]
        · subst h
          rcases Int.lt_trichotomy a7 b7 with h | h | h
          · simp [h]
          · subst h; simp
          · simp [h, show ¬ a7 < b7 by omega]
        · simp [h, show ¬ a6 < b6 by omega, show ¬ a6 = b6 by omega]
      · simp [h, show ¬ a0 < b0 by omega, show ¬ a0 = b0 by omega]
    · simp [h, show ¬ a5 < b5 by omega, show ¬ a5 = b5 by omega]
  · simp [h, show ¬ a1 = b1 by omega]

theorem impl_rul (n : Nat) (e p po ps s a o b : Int) : impl_IsRule.f (n + 2) e p po ps s a o b = some (isRul e p po ps s a o b) := by
  unfold impl_IsRule.f isRul; simp only [impl_in, impl_pat, Option.bind_some, impl_IsRule.j0, impl_IsRule.j1, impl_sit]
  cases inR e 1 5 <;> cases inR p 1 9 <;> cases isPat po ps <;> cases inR s 0 4 <;> simp
  by_cases h1 : a = 1
  · subst h1; simp [beq_dec]
  · by_cases h2 : a = 2
    · subst h2; simp [beq_dec]
    · by_cases h3 : a = 3
      · subst h3; simp
      · simp [h1, h2, h3]

theorem impl_mtch (a b c d : Int) : impl_MatchSite.f a b c d = some (mtch a b c d) := by
  unfold impl_MatchSite.f mtch; simp only [impl_pat, impl_sit, Option.bind_some]
  cases isPat a b <;> cases isSit c d <;> simp
  by_cases h1 : a = 0 <;> by_cases h2 : a = c <;> by_cases h3 : b = -1 <;> simp [h1, h2, h3] <;> simp [beq_dec]

theorem impl_appl (n : Nat) (e p po ps s a o b qo qs qt : Int) : impl_Applies.f (n + 2) e p po ps s a o b qo qs qt = some (appl e p po ps s a o b qo qs qt) := by
  unfold impl_Applies.f appl; simp only [impl_rul, impl_req, impl_mtch, Option.bind_some]
  cases isRul e p po ps s a o b <;> cases isReq qo qs qt <;> cases mtch po ps qo qs <;> by_cases h : s = 0 <;> simp [h, beq_dec]


theorem impl_first (k : Nat) (xs : List S46) (qo qs qt : Int) (hn : xs.length ≤ 1048576) (hk : xs.length + 2 < k) : impl_firstOf.f k xs qo qs qt = some (fir qo qs qt xs 0) := by
  have L := loop_run 2 (fun k (_ : Unit) i => impl_firstOf.l0 k xs (xs.length : Int) i qo qs qt) xs.length (fun _ i => fir qo qs qt (xs.drop i) i) (fun _ _ => True) (by omega)
    (fun k u_ i hm hi hI ih => by
      have hd := drop_at xs i hi
      have hr := rdRule_i xs i hi
      generalize xs[i] = r at hd hr
      have ih' := ih () trivial
      try dsimp only at ih'
      simp only [impl_firstOf.l0]
      obtain ⟨k, rfl⟩ : ∃ z, k = z + 2 := ⟨k - 2, by omega⟩
      rw [if_pos (by omega), if_pos (by omega), if_pos (by omega)]
      simp only [hr]
      rw [impl_appl, Option.bind_some, ih', hd]
      simp only [fir]
      split <;> rfl)
    (fun k u_ hm hI => by
      simp only [impl_firstOf.l0]
      rw [if_neg nlt, List.drop_of_length_le (Nat.le_refl _)]
      rfl) k hk () trivial
  try dsimp only at L
  unfold impl_firstOf.f
  rw [L, List.drop_zero]


theorem impl_pick1 (k : Nat) (A : List S46) (B : List (List S46)) (y a b : Int) (ha : -1 ≤ a ∧ a < A.length) (hy : 0 ≤ y ∧ y < B.length) (hb : -1 ≤ b ∧ b < (rd_L8 B y).length) (t : Bool)
    (ht : t = if b < 0 then false else if a < 0 then true else befR (rd_T46 (rd_L8 B y) b) (rd_T46 A a)) : impl_FastRule.j1 (k + 1) a b y t A B = some (pickM A (rd_L8 B y) a b) := by
  unfold pickM
  by_cases hb0 : b < 0
  · rw [if_pos hb0] at ht
    subst ht
    by_cases ha0 : a < 0
    · simp only [impl_FastRule.j1, Bool.false_eq_true, if_false, if_pos hb0, if_pos ha0]
    · have ha1 : 0 ≤ a := by omega
      have ha2 : a < (A.length : Int) := ha.2
      simp only [impl_FastRule.j1, Bool.false_eq_true, if_false, if_pos hb0, if_neg ha0, if_pos ha1, if_pos ha2, tupR]
  · have hb1 : 0 ≤ b := by omega
    have hb2 : b < ((rd_L8 B y).length : Int) := hb.2
    have hy1 := hy.1
    have hy2 := hy.2
    rw [if_neg hb0] at ht
    by_cases ha0 : a < 0
    · rw [if_pos ha0] at ht
      subst ht
      simp only [impl_FastRule.j1, if_true, if_neg hb0, if_pos ha0, if_pos hy1, if_pos hy2, if_pos hb1, if_pos hb2, tupR]
    · have ha1 : 0 ≤ a := by omega
      have ha2 : a < (A.length : Int) := ha.2
      rw [if_neg ha0] at ht
      rw [if_neg hb0, if_neg ha0, ← ht]
      cases t
      · simp only [impl_FastRule.j1, Bool.false_eq_true, if_false, if_neg ha0, if_pos ha1, if_pos ha2, tupR]
      · simp only [impl_FastRule.j1, if_true, if_pos hy1, if_pos hy2, if_pos hb1, if_pos hb2, tupR]
theorem impl_Fast_eq (k : Nat) (A : List S46) (B : List (List S46)) (qo qs qt : Int) (hA : A.length ≤ 1048576) (hB : B.length ≤ 1048576) (hq : ∀ y ∈ B, y.length ≤ 1048576) (hw : -9223372036854775808 ≤ qo ∧ qo ≤ 9223372036854775807) (hk : 1048700 < k) : impl_FastRule.f k A B qo qs qt = some (fastM A B qo qs qt) := by
  have hC := rdL8_len B hq (qo - 1)
  have r1 := fir_range qo qs qt A 0
  have r2 := fir_range qo qs qt (rd_L8 B (qo - 1)) 0
  unfold impl_FastRule.f fastM
  rw [impl_first k A qo qs qt hA (by omega), Option.bind_some]
  obtain ⟨k, rfl⟩ : ∃ m, k = m + 10 := ⟨k - 10, by omega⟩
  by_cases h : 1 ≤ qo ∧ qo ≤ B.length
  · have e : wrap64 (qo - 1) = qo - 1 := wr (by omega) (by omega)
    rw [if_pos h, e, if_pos (by omega), decide_eq_true (by omega)]
    simp only [impl_FastRule.j0]
    rw [if_pos trivial, if_pos (by omega), if_pos (by omega), impl_first _ _ qo qs qt hC (by omega), Option.bind_some]
    by_cases hb : fir qo qs qt (rd_L8 B (qo - 1)) 0 ≥ 0
    · rw [if_pos hb]
      by_cases ha : fir qo qs qt A 0 < 0
      · rw [if_pos ha]
        exact impl_pick1 (k + 8) A B _ _ _ (by omega) (by omega) (by omega) _ (by rw [if_neg (by omega), if_pos ha])
      · rw [if_neg ha, if_pos (by omega), if_pos (by omega), if_pos (by omega), if_pos (by omega), show k + 9 = (k + 3) + 6 from rfl, impl_befo, Option.bind_some]
        exact impl_pick1 (k + 8) A B _ _ _ (by omega) (by omega) (by omega) _ (by rw [if_neg (by omega), if_neg ha]; rfl)
    · rw [if_neg hb]
      exact impl_pick1 (k + 8) A B _ _ _ (by omega) (by omega) (by omega) _ (by rw [if_pos (by omega)])
  · rw [if_neg h]
    have hj : ∀ y : Int, impl_FastRule.j0 (k + 10) (fir qo qs qt A 0) y false A B qo qs qt = some (pickM A (rd_L8 B (qo - 1)) (fir qo qs qt A 0) (-1)) := by
      intro y
      unfold pickM
      rw [if_pos (by decide)]
      by_cases ha : fir qo qs qt A 0 < 0
      · simp only [impl_FastRule.j0, Bool.false_eq_true, if_false, if_pos ha]
      · have ha1 : 0 ≤ fir qo qs qt A 0 := by omega
        have ha2 : fir qo qs qt A 0 < (A.length : Int) := by omega
        simp only [impl_FastRule.j0, Bool.false_eq_true, if_false, if_neg ha, if_pos ha1, if_pos ha2, tupR]
    by_cases hc : wrap64 (qo - 1) ≥ 0
    · rw [if_pos hc, decide_eq_false]
      · exact hj _
      · unfold wrap64 at hc ⊢; omega
    · rw [if_neg hc]; exact hj _

theorem eqRule_self (a0 : Int) (a1 : Int) (a2 : Int) (a3 : Int) (a4 : Int) (a5 : Int) (a6 : Int) (a7 : Int) : laws_eqRule.f a0 a1 a2 a3 a4 a5 a6 a7 a0 a1 a2 a3 a4 a5 a6 a7 = some true := by
  simp [laws_eqRule.f, laws_eqPattern.f, laws_eqSite.f]

theorem eqRuleS_self (k : Nat) (xs : List S46) (hn : xs.length ≤ 1048576) (hk : xs.length < k) : laws_eqRuleS.f k xs xs = some true := by
  have L := loop_up (fun k (_ : Unit) i => laws_eqRuleS.l0 k xs xs i) xs.length (fun _ _ => true) (fun _ _ => True) (by omega)
    (fun k s i hi hI ih => by
      simp only [laws_eqRuleS.l0]
      rw [if_pos (by omega), if_pos (by omega), if_pos (by omega)]
      simp only [eqRule_self, Option.bind_some, if_true]
      exact ih () trivial)
    (fun k s hI => by
      simp only [laws_eqRuleS.l0]
      rw [if_neg nlt])
  unfold laws_eqRuleS.f
  rw [if_pos rfl]
  exact loop_from L k hk () trivial


theorem eqRuleSS_self (k : Nat) (q : List (List S46)) (hn : q.length ≤ 1048576) (hq : ∀ y ∈ q, y.length ≤ 1048576) (hk : q.length + 1048577 < k) : laws_eqRuleSS.f k q q = some true := by
  have L := loop_run 1048577 (fun k (_ : Unit) i => laws_eqRuleSS.l0 k q q i) q.length (fun _ _ => true) (fun _ _ => True) (by omega)
    (fun k s i hm hi hI ih => by
      have hr : rd_L8 q (i : Int) = q[i] := rd_at _ q i hi
      have hl : (q[i]).length ≤ 1048576 := hq _ (List.getElem_mem _)
      simp only [laws_eqRuleSS.l0]
      rw [if_pos (by omega), if_pos (by omega), if_pos (by omega), hr, eqRuleS_self k _ hl (by omega), Option.bind_some, if_pos rfl]
      exact ih () trivial)
    (fun k s hm hI => by
      simp only [laws_eqRuleSS.l0]
      rw [if_neg nlt]) k hk () trivial
  try dsimp only at L
  unfold laws_eqRuleSS.f
  rw [if_pos rfl, L]


theorem eqTable_self (k : Nat) (l : List S46) (q : List (List S46)) (hl : l.length ≤ 1048576) (hn : q.length ≤ 1048576) (hq : ∀ y ∈ q, y.length ≤ 1048576) (hk : q.length + 1048577 < k) : laws_eqTable.f k l q l q = some true := by
  unfold laws_eqTable.f
  rw [eqRuleS_self k l hl (by omega), Option.bind_some, if_pos rfl, eqRuleSS_self k q hn hq hk, Option.bind_some, if_pos rfl]


theorem FnExactFastRule (l : List S65) (q : List (List S65)) (qo qs qt : Int) (hm : l.length ≤ 9223372036854775807) {g : S65 → Prop} (hg : ∀ y ∈ l, g y) (hm2 : q.length ≤ 9223372036854775807) {g2 : S65 → Prop} (hg2 : ∀ y ∈ q, y.length ≤ 9223372036854775807 ∧ ∀ z ∈ y, g2 z)
    (h1 : (Lit.int .i64 qo).wf = true) (_ : (Lit.int .i64 qs).wf = true) (_ : (Lit.int .i64 qt).wf = true) : ∃ k, laws_FnExactFastRule.f k l q qo qs qt = some true := by
  have hw : -9223372036854775808 ≤ qo ∧ qo ≤ 9223372036854775807 := by simp [Lit.wf, IntKind.min, IntKind.max, IntKind.signed, IntKind.bits] at h1; omega
  obtain ⟨K, hK⟩ : ∃ K, K = q.length + l.length + 3000000 := ⟨_, rfl⟩
  refine ⟨K, ?_⟩
  unfold laws_FnExactFastRule.f
  obtain ⟨z, hz, hs⟩ := szTable K l q hm hm2 (fun y hy => (hg2 y hy).1) (by omega)
  rw [hz, Option.bind_some]
  by_cases h : z < 0
  · rw [if_pos h]
  · obtain ⟨hl, hn, hq⟩ := hs.resolve_left h
    have hn' : (q.map (List.map cvRule)).length = q.length := by simp
    have hl' : (l.map cvRule).length = l.length := by simp
    have hq' : ∀ y ∈ q.map (List.map cvRule), y.length ≤ 1048576 := by
      intro y hy
      obtain ⟨x, hx, rfl⟩ := List.mem_map.1 hy
      simpa using hq x hx
    rw [if_neg h, toTable_eq _ l q hl hn hq (by omega), Option.bind_some]
    simp only [laws_toRequest.f, laws_toSite.f, Option.bind_some]
    rw [spec_Fast_eq K _ _ qo qs qt (by omega) (by omega) hq' (by omega), Option.bind_some, impl_Fast_eq K _ _ qo qs qt (by omega) (by omega) hq' hw (by omega), Option.bind_some, eqRule_self, Option.bind_some, if_pos rfl]
    obtain ⟨k, rfl⟩ : ∃ m, K = m + 1 := ⟨K - 1, by omega⟩
    simp only [laws_FnExactFastRule.j0, bne_self_eq_false, Bool.false_eq_true, if_false]
    rw [toTable_eq _ l q hl hn hq (by omega), Option.bind_some]
    dsimp only
    rw [eqTable_self _ _ _ (by omega) (by omega) hq' (by omega), Option.bind_some, if_pos rfl]

end Go.Proofs.Ytbjhambdpjiibaa.Pure
