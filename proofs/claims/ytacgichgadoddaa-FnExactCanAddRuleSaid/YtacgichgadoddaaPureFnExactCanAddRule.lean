/- The printed function of the law FnExactCanAddRule answers true, for all arguments, under no condition but that each whole number is one of its kind and that each slice has a length that fits. -/
import Derived.Test.YtacgichgadoddaaQDx27
namespace Go.Proofs.Ytacgichgadoddaa.Pure
open Go.RowKit Go.Proofs.Ytacgichgadoddaa.QD Go.Proofs.YtacgichgadoddaaW.PrintWords Go.Proofs.YtacgichgadoddaaW.PrintLast
set_option linter.unusedVariables false
set_option linter.unusedSimpArgs false
theorem wr {i : Int} (h0 : -9223372036854775808 ≤ i) (h1 : i ≤ 9223372036854775807) : wrap64 i = i := by unfold wrap64; omega
theorem beq_dec (a b : Int) : (a == b) = decide (a = b) := by by_cases h : a = b <;> simp [h]
theorem and_if (p : Prop) [Decidable p] (c : Bool) : (if p then some c else some false) = some (decide p && c) := by
  by_cases h : p <;> simp [h]
theorem or_if (p : Prop) [Decidable p] (c : Bool) : (if p then some true else some c) = some (decide p || c) := by
  by_cases h : p <;> simp [h]
def inR (a b c : Int) : Bool := decide (b ≤ a) && decide (a ≤ c)
def isPat (o s : Int) : Bool := inR o 0 9 && inR s (-1) 9
def isSit (o s : Int) : Bool := inR o 1 9 && inR s 0 9
def mtch (po ps o s : Int) : Bool := isPat po ps && (isSit o s && ((decide (po = 0) || decide (po = o)) && (decide (ps = -1) || decide (ps = s))))
def narr (po ps qo qs : Int) : Bool := isPat po ps && (isPat qo qs && ((decide (qo = 0) || decide (po = qo)) && (decide (qs = -1) || decide (ps = qs))))
def isGra (e po ps k f u : Int) : Bool := inR e 1 5 && (isPat po ps && (inR k 1 4 && (decide (0 ≤ f) && (decide (f ≤ u) && decide (u ≤ 10000)))))
def isLim (e po ps k : Int) : Bool := inR e 0 5 && (isPat po ps && inR k 0 4)
def covr (e po ps k f u : Int) (cl : Bool) (ext o s kind tick : Int) (ck : Bool) : Bool :=
  isGra e po ps k f u && (decide (e = ext) && (decide (k = kind) && (mtch po ps o s && (inR tick f u && (ck || !cl)))))
def isRul (e p po ps s a o b : Int) : Bool :=
  inR e 1 5 && (inR p 1 9 && (isPat po ps && (inR s 0 4 && ((decide (a = 1) || decide (a = 2)) && (decide (o = 0) && decide (b = 0)) || decide (a = 3) && isSit o b))))
def isReq (o s t : Int) : Bool := isSit o s && inR t 1 4
def appl (e p po ps s a o b qo qs qt : Int) : Bool := isRul e p po ps s a o b && (isReq qo qs qt && (mtch po ps qo qs && (decide (s = 0) || decide (s = qt))))
def isLen (e po ps k f u : Int) (cl : Bool) : Bool := isGra e po ps k f u && (decide (po ≠ 0) && (decide (ps ≠ -1) && ((decide (k = 1) || decide (k = 2)) && (decide (u = f + 5) && !cl))))
def isLab (x : Int) : Bool := inR x 0 1022 && decide (Int.tmod x 2 = 0)
def befo (ae ap aa ao ab be bp ba bo bb : Int) : Bool :=
  if ap = bp then (if aa = ba then (if ae = be then (if ao = bo then decide (ab < bb) else decide (ao < bo)) else decide (ae < be)) else decide (aa < ba)) else decide (bp < ap)
def within (e po ps k f u : Int) (cl : Bool) (e' po' ps' k' f' u' : Int) (cl' : Bool) : Bool :=
  isGra e po ps k f u && (isGra e' po' ps' k' f' u' && (decide (e = e') && (decide (k = k') && (narr po ps po' ps' && (decide (f' ≤ f) && (decide (u ≤ u') && (cl || !cl')))))))
theorem take_set1 {α : Type} (s : List α) (i : Nat) (v : α) (h : i < s.length) : (s.set i v).take (i + 1) = s.take i ++ [v] := by
  rw [List.take_succ_eq_append_getElem (by simpa using h), List.take_set, List.set_eq_of_length_le (by simp; omega)]
  simp
theorem loop_up {σ ρ : Type} (g : Nat → σ → Int → Option ρ) (n : Nat) (out : σ → Nat → ρ) (I : σ → Nat → Prop) (hn : n ≤ 9223372036854775806)
    (hstep : ∀ (k : Nat) (s : σ) (i : Nat), i < n → I s i → (∀ s', I s' (i + 1) → g k s' (wrap64 ((i : Int) + 1)) = some (out s' (i + 1))) → g (k + 1) s (i : Int) = some (out s i))
    (hend : ∀ (k : Nat) (s : σ), I s n → g (k + 1) s (n : Int) = some (out s n)) :
    ∀ (d k : Nat) (s : σ) (i : Nat), i + d = n → d < k → I s i → g k s (i : Int) = some (out s i) := by
  intro d
  induction d with
  | zero =>
    intro k s i hi hk hI
    obtain ⟨k, rfl⟩ : ∃ m, k = m + 1 := ⟨k - 1, by omega⟩
    obtain rfl : i = n := by omega
    exact hend k s hI
  | succ d ih =>
    intro k s i hi hk hI
    obtain ⟨k, rfl⟩ : ∃ m, k = m + 1 := ⟨k - 1, by omega⟩
    refine hstep k s i (by omega) hI fun s' hI' => ?_
    have := ih k s' (i + 1) (by omega) (by omega) hI'
    rw [wr (by omega) (by omega)]
    exact_mod_cast this
theorem loop_from {σ ρ : Type} {g : Nat → σ → Int → Option ρ} {n : Nat} {out : σ → Nat → ρ} {I : σ → Nat → Prop} (h : ∀ (d k : Nat) (s : σ) (i : Nat), i + d = n → d < k → I s i → g k s (i : Int) = some (out s i))
    (k : Nat) (hk : n < k) (s : σ) (hI : I s 0) : g k s 0 = some (out s 0) := by
  have := h n k s 0 (by omega) hk hI
  exact_mod_cast this
theorem drop_at {α : Type} (xs : List α) (i : Nat) (h : i < xs.length) : xs.drop i = xs[i] :: xs.drop (i + 1) := List.drop_eq_getElem_cons h

theorem nlt {n : Nat} : ¬ (n : Int) < (n : Int) := by omega
/-- where a list is copied element by element into a made one -/
theorem rd_at {α : Type} (z : α) (xs : List α) (i : Nat) (h : i < xs.length) : xs.getD (i : Int).toNat z = xs[i] := by simp [h]

theorem loop_upm {σ ρ : Type} (m : Nat) (g : Nat → σ → Int → Option ρ) (n : Nat) (out : σ → Nat → ρ) (I : σ → Nat → Prop) (hn : n ≤ 9223372036854775806)
    (hstep : ∀ (k : Nat) (s : σ) (i : Nat), m ≤ k → i < n → I s i → (∀ s', I s' (i + 1) → g k s' (wrap64 ((i : Int) + 1)) = some (out s' (i + 1))) → g (k + 1) s (i : Int) = some (out s i))
    (hend : ∀ (k : Nat) (s : σ), m ≤ k → I s n → g (k + 1) s (n : Int) = some (out s n)) :
    ∀ (d k : Nat) (s : σ) (i : Nat), i + d = n → d + m < k → I s i → g k s (i : Int) = some (out s i) := by
  intro d
  induction d with
  | zero =>
    intro k s i hi hk hI
    obtain ⟨k, rfl⟩ : ∃ m, k = m + 1 := ⟨k - 1, by omega⟩
    obtain rfl : i = n := by omega
    exact hend k s (by omega) hI
  | succ d ih =>
    intro k s i hi hk hI
    obtain ⟨k, rfl⟩ : ∃ m, k = m + 1 := ⟨k - 1, by omega⟩
    refine hstep k s i (by omega) (by omega) hI fun s' hI' => ?_
    have := ih k s' (i + 1) (by omega) (by omega) hI'
    rw [wr (by omega) (by omega)]
    exact_mod_cast this
theorem loop_fromm {σ ρ : Type} {m : Nat} {g : Nat → σ → Int → Option ρ} {n : Nat} {out : σ → Nat → ρ} {I : σ → Nat → Prop} (h : ∀ (d k : Nat) (s : σ) (i : Nat), i + d = n → d + m < k → I s i → g k s (i : Int) = some (out s i))
    (k : Nat) (hk : n + m < k) (s : σ) (hI : I s 0) : g k s 0 = some (out s 0) := by
  have := h n k s 0 (by omega) hk hI
  exact_mod_cast this
theorem loop_run {σ ρ : Type} (m : Nat) (g : Nat → σ → Int → Option ρ) (n : Nat) (out : σ → Nat → ρ) (I : σ → Nat → Prop) (hn : n ≤ 9223372036854775806)
    (hstep : ∀ (k : Nat) (s : σ) (i : Nat), m ≤ k → i < n → I s i → (∀ s', I s' (i + 1) → g k s' (wrap64 ((i : Int) + 1)) = some (out s' (i + 1))) → g (k + 1) s (i : Int) = some (out s i))
    (hend : ∀ (k : Nat) (s : σ), m ≤ k → I s n → g (k + 1) s (n : Int) = some (out s n)) (k : Nat) (hk : n + m < k) (s : σ) (hI : I s 0) : g k s 0 = some (out s 0) :=
  loop_fromm (loop_upm m g n out I hn hstep hend) k hk s hI
theorem if_and2 {α : Type} (a : Bool) (p : Prop) [Decidable p] (x y : α) : (if a = true then (if p then x else y) else y) = if (a && decide p) = true then x else y := by
  cases a <;> by_cases h : p <;> simp [h]

theorem if_nand {α : Type} (a b : Bool) (x y : α) : (if a = true then (if b = true then y else x) else x) = if (!(a && b)) = true then x else y := by
  cases a <;> cases b <;> simp
theorem rdPattern_l (xs : List S24) (i : Nat) (h : i < xs.length) : rd_T24 xs (i : Int) = xs[i] := rd_at _ xs i h
theorem rdSite_l (xs : List S25) (i : Nat) (h : i < xs.length) : rd_T25 xs (i : Int) = xs[i] := rd_at _ xs i h
theorem rdRule_l (xs : List S27) (i : Nat) (h : i < xs.length) : rd_T27 xs (i : Int) = xs[i] := rd_at _ xs i h
theorem rdPattern_i (xs : List S32) (i : Nat) (h : i < xs.length) : rd_T32 xs (i : Int) = xs[i] := rd_at _ xs i h
theorem rdSite_i (xs : List S33) (i : Nat) (h : i < xs.length) : rd_T33 xs (i : Int) = xs[i] := rd_at _ xs i h
theorem rdRule_i (xs : List S35) (i : Nat) (h : i < xs.length) : rd_T35 xs (i : Int) = xs[i] := rd_at _ xs i h
theorem rdGrant_l (xs : List S41) (i : Nat) (h : i < xs.length) : rd_T41 xs (i : Int) = xs[i] := rd_at _ xs i h
theorem rdGrant_i (xs : List S48) (i : Nat) (h : i < xs.length) : rd_T48 xs (i : Int) = xs[i] := rd_at _ xs i h

theorem spec_in (a b c : Int) : spec_l1In.f a b c = some (inR a b c) := by
  unfold spec_l1In.f inR; exact and_if _ _

theorem spec_pat (a b : Int) : spec_IsPattern.f a b = some (isPat a b) := by
  unfold spec_IsPattern.f isPat; simp only [spec_in, Option.bind_some]; cases inR a 0 9 <;> simp

theorem impl_in (a b c : Int) : impl_InRange.f a b c = some (inR a b c) := by
  unfold impl_InRange.f inR; exact and_if _ _

theorem impl_pat (a b : Int) : impl_IsPattern.f a b = some (isPat a b) := by
  unfold impl_IsPattern.f isPat; simp only [impl_in, Option.bind_some]; cases inR a 0 9 <;> simp

theorem szRule (xs : List S27) (a : Int) (h0 : 0 ≤ a) (h1 : a ≤ 1048576) (hl : xs.length ≤ 9223372036854775807) : laws_szRuleS.f xs a = some (if a < xs.length then -1 else a - xs.length) := by
  unfold laws_szRuleS.f
  rw [wr (by omega) (by omega)]
  by_cases h : a < xs.length
  · rw [if_pos (by omega), if_pos h]
  · rw [if_neg (by omega), if_neg h]

theorem spec_sit (a b : Int) : spec_IsSite.f a b = some (isSit a b) := by
  unfold spec_IsSite.f isSit; simp only [spec_in, Option.bind_some]; cases inR a 1 9 <;> simp

theorem spec_RulesOf_eq (k : Nat) (xs : List S35) (x : Int) (hn : xs.length ≤ 1048576) (hk : xs.length < k) : spec_RulesOf.f k xs x = some (xs.filter fun r => decide (r.f0 = x)) := by
  have L := loop_run 0 (fun k (s : List S35) i => spec_RulesOf.l0 k xs x s i) xs.length (fun s i => s ++ (xs.drop i).filter fun r => decide (r.f0 = x)) (fun s i => s.length ≤ i) (by omega)
    (fun k s i hm hi hI ih => by
      have hd := drop_at xs i hi
      have hr := rdRule_i xs i hi
      generalize xs[i] = r at hd hr
      simp only [spec_RulesOf.l0]
      rw [if_pos (by omega), if_pos (by omega)]
      simp only [hr]
      rw [hd]
      by_cases hp : (decide (r.f0 = x)) = true
      · have hp' := hp
        rw [if_pos (of_decide_eq_true hp)]
        rw [if_pos (by omega), ih _ (by simp; omega)]
        simp only [List.filter_cons, hp', ↓reduceIte, List.append_assoc]
        rfl
      · have hp' := hp
        rw [if_neg (fun h => hp (decide_eq_true h))]
        rw [ih _ (by omega)]
        simp only [List.filter_cons, hp', ↓reduceIte, Bool.false_eq_true])
    (fun k s hm hI => by
      simp only [spec_RulesOf.l0]
      rw [if_neg nlt, List.drop_of_length_le (Nat.le_refl _)]
      simp) k hk [] (by simp)
  try dsimp only at L
  unfold spec_RulesOf.f
  rw [L]
  simp

theorem toSite_eq (a0 : Int) (a1 : Int) : laws_toSite.f a0 a1 = some (a0, a1) := by
  unfold laws_toSite.f; rfl

theorem toRule_eq (a0 : Int) (a1 : Int) (a2 : Int) (a3 : Int) (a4 : Int) (a5 : Int) (a6 : Int) (a7 : Int) : laws_toRule.f a0 a1 a2 a3 a4 a5 a6 a7 = some (a0, a1, a2, a3, a4, a5, a6, a7) := by
  unfold laws_toRule.f laws_toPattern.f laws_toSite.f; rfl

def cvRule (r : S27) : S35 := ⟨r.f0, r.f1, ⟨r.f2.f0, r.f2.f1⟩, r.f3, r.f4, ⟨r.f5.f0, r.f5.f1⟩⟩
theorem toRuleS_eq (k : Nat) (xs : List S27) (hn : xs.length ≤ 1048576) (hk : xs.length < k) : laws_toRuleS.f k xs = some (xs.map cvRule) := by
  have L := loop_up (fun k (s : List S35) i => laws_toRuleS.l0 k xs s i) xs.length (fun s i => s.take i ++ (xs.drop i).map cvRule) (fun s _ => s.length = xs.length) (by omega)
    (fun k s i hi hI ih => by
      simp only [laws_toRuleS.l0]
      rw [if_pos (by omega), if_pos (by omega), rdRule_l xs i hi, toRule_eq]
      simp only [Option.bind_some]
      rw [if_pos (by omega), ih _ (by simp [hI]), Int.toNat_natCast, take_set1 _ _ _ (by omega), drop_at xs i hi, List.map_cons, List.append_assoc]
      rfl)
    (fun k s hI => by
      simp only [laws_toRuleS.l0]
      rw [if_neg nlt, List.drop_of_length_le (Nat.le_refl _), List.take_of_length_le (by omega)]
      simp)
  unfold laws_toRuleS.f
  rw [if_pos (by omega), if_pos (by omega)]
  rw [loop_from L k hk _ (by simp)]
  simp

theorem impl_sit (a b : Int) : impl_IsSite.f a b = some (isSit a b) := by
  unfold impl_IsSite.f isSit; simp only [impl_in, Option.bind_some]; cases inR a 1 9 <;> simp


def sameRule (a b c d e f g h : Int) (r : S35) : Bool := (r.f0 == a && (r.f1 == b && ((r.f2.f0 == c && (r.f2.f1 == d)) && (r.f3 == e && (r.f4 == f && ((r.f5.f0 == g && (r.f5.f1 == h))))))))
theorem sameRule_c (a b c d e f g h : Int) (r : S35) : (a == r.f0 && (b == r.f1 && ((c == r.f2.f0 && (d == r.f2.f1)) && (e == r.f3 && (f == r.f4 && ((g == r.f5.f0 && (h == r.f5.f1)))))))) = sameRule a b c d e f g h r := by
  have E0 : ∀ x y : Int, (x == y) = (y == x) := fun x y => by rw [beq_dec, beq_dec]; exact decide_eq_decide.2 eq_comm
  unfold sameRule
  rw [E0 a, E0 b, E0 c, E0 d, E0 e, E0 f, E0 g, E0 h]

theorem ixRule_l (k : Nat) (xs : List S35) (a b c d e f g h : Int) (hn : xs.length ≤ 1048576) (hk : xs.length < k) : impl_Rule_129.f k xs a b c d e f g h = some (if xs.any (sameRule a b c d e f g h) then ((xs.findIdx (sameRule a b c d e f g h) : Nat) : Int) else -1) := by
  have L := loop_run 0 (fun k (_ : Unit) i => impl_Rule_129.l0 k xs (xs.length : Int) i a b c d e f g h) xs.length (fun _ i => if (xs.drop i).any (sameRule a b c d e f g h) then ((i + (xs.drop i).findIdx (sameRule a b c d e f g h) : Nat) : Int) else -1) (fun _ _ => True) (by omega)
    (fun k u_ i hm hi hI ih => by
      have hd := drop_at xs i hi
      have hr := rdRule_i xs i hi
      generalize xs[i] = r at hd hr
      have ih' := ih () trivial
      try dsimp only at ih'
      simp only [impl_Rule_129.l0]
      rw [if_pos (by omega), if_pos (by omega), if_pos (by omega)]
      simp only [hr]
      rw [sameRule_c, ih', hd, List.any_cons, List.findIdx_cons]
      cases sameRule a b c d e f g h r
      · simp only [Bool.false_or, Bool.false_eq_true, if_false, cond_false]
        congr 1
        split
        · omega
        · rfl
      · simp)
    (fun k u_ hm hI => by
      simp only [impl_Rule_129.l0]
      rw [if_neg nlt, List.drop_of_length_le (Nat.le_refl _)]
      simp) k hk () trivial
  try dsimp only at L
  unfold impl_Rule_129.f
  rw [L, List.drop_zero, Nat.zero_add]


theorem hasRule_eq (k : Nat) (xs : List S35) (a b c d e f g h : Int) (hn : xs.length ≤ 1048576) (hk : xs.length < k) : impl_Rule_88.f k xs a b c d e f g h = some (xs.any (sameRule a b c d e f g h)) := by
  unfold impl_Rule_88.f
  rw [ixRule_l k xs a b c d e f g h hn hk, Option.bind_some]
  congr 1
  split
  · next h => rw [h]; exact decide_eq_true (by omega)
  · next h => rw [Bool.eq_false_iff.2 h]; rfl

theorem eqSite_self (a0 : Int) (a1 : Int) : laws_eqSite.f a0 a1 a0 a1 = some true := by
  simp [laws_eqSite.f]

theorem spec_rul (e p po ps s a o b : Int) : spec_IsRule.f e p po ps s a o b = some (isRul e p po ps s a o b) := by
  unfold spec_IsRule.f isRul; simp only [spec_in, spec_pat, Option.bind_some, spec_sit]
  cases inR e 1 5 <;> cases inR p 1 9 <;> cases isPat po ps <;> cases inR s 0 4 <;> simp
  by_cases h1 : a = 1
  · subst h1; simp [beq_dec, inR]
  · by_cases h2 : a = 2
    · subst h2; simp [beq_dec, inR]
    · by_cases h3 : a = 3
      · subst h3; cases isSit o b <;> simp [inR]
      · have : inR a 1 3 = false := by unfold inR; simp; omega
        simp [h1, h2, h3, this]


def sameRs (a b c d e f g h : Int) (r : S35) : Bool := (r.f0 == a && (r.f1 == b && ((r.f2.f0 == c && (r.f2.f1 == d)) && (r.f3 == e && (r.f4 == f && ((r.f5.f0 == g && (r.f5.f1 == h))))))))
def canAdd (xs : List S35) (a b c d e f g h : Int) : Bool := !xs.any (sameRs a b c d e f g h) && (isRul a b c d e f g h && (decide (((xs.filter fun y => decide (y.f0 = a)).length : Int) < 6) && decide ((xs.length : Int) < 20)))

theorem spec_CanAddRule_eq (k : Nat) (xs : List S35) (a b c d e f g h : Int) (hn : xs.length ≤ 1048576) (hk : xs.length + (xs.length + 5) < k) : spec_CanAddRule.f k xs a b c d e f g h = some (canAdd xs a b c d e f g h) := by
  have L := loop_run (xs.length + 5) (fun k (_ : Unit) i => spec_CanAddRule.l0 k xs i a b c d e f g h) xs.length (fun _ i => !(xs.drop i).any (sameRs a b c d e f g h) && (isRul a b c d e f g h && (decide (((xs.filter fun y => decide (y.f0 = a)).length : Int) < 6) && decide ((xs.length : Int) < 20)))) (fun _ _ => True) (by omega)
    (fun k u_ i hm hi hI ih => by
      have hd := drop_at xs i hi
      have hr := rdRule_i xs i hi
      generalize xs[i] = r at hd hr
      have ih' := ih () trivial
      try dsimp only at ih'
      simp only [spec_CanAddRule.l0]
      rw [if_pos (by omega), if_pos (by omega)]
      simp only [hr]
      rw [hd, List.any_cons, ih']
      show (if sameRs a b c d e f g h r = true then some false else _) = _
      cases sameRs a b c d e f g h r <;> simp)
    (fun k u_ hm hI => by
      simp only [spec_CanAddRule.l0]
      rw [if_neg nlt, List.drop_of_length_le (Nat.le_refl _), spec_rul, Option.bind_some, spec_RulesOf_eq k xs a hn (by omega), Option.bind_some]
      cases isRul a b c d e f g h
      · simp
      · by_cases h1 : ((xs.filter fun y => decide (y.f0 = a)).length : Int) < 6
        · rw [if_pos rfl, if_pos h1]; simp [h1]
        · rw [if_pos rfl, if_neg h1]; simp [h1]) k hk () trivial
  try dsimp only at L
  unfold spec_CanAddRule.f
  rw [L, List.drop_zero]
  rfl

theorem impl_RulesOf_eq (k : Nat) (xs : List S35) (x : Int) (hn : xs.length ≤ 1048576) (hk : xs.length < k) : impl_RulesOf.f k xs x = some (xs.filter fun r => decide (r.f0 = x)) := by
  have L := loop_run 0 (fun k (s : List S35) i => impl_RulesOf.l0 k x s xs (xs.length : Int) i) xs.length (fun s i => s ++ (xs.drop i).filter fun r => decide (r.f0 = x)) (fun s i => s.length ≤ i) (by omega)
    (fun k s i hm hi hI ih => by
      have hd := drop_at xs i hi
      have hr := rdRule_i xs i hi
      generalize xs[i] = r at hd hr
      simp only [impl_RulesOf.l0]
      rw [if_pos (by omega), if_pos (by omega), if_pos (by omega)]
      simp only [hr]
      rw [hd]
      by_cases hp : (decide (r.f0 = x)) = true
      · have hp' := hp
        rw [if_pos (of_decide_eq_true hp)]
        rw [if_pos (by omega), ih _ (by simp; omega)]
        simp only [List.filter_cons, hp', ↓reduceIte, List.append_assoc]
        rfl
      · have hp' := hp
        rw [if_neg (fun h => hp (decide_eq_true h))]
        rw [ih _ (by omega)]
        simp only [List.filter_cons, hp', ↓reduceIte, Bool.false_eq_true])
    (fun k s hm hI => by
      simp only [impl_RulesOf.l0]
      rw [if_neg nlt, List.drop_of_length_le (Nat.le_refl _)]
      simp) k hk [] (by simp)
  try dsimp only at L
  unfold impl_RulesOf.f
  rw [L]
  simp

theorem impl_rul (n : Nat) (e p po ps s a o b : Int) : impl_IsRule.f (n + 2) e p po ps s a o b = some (isRul e p po ps s a o b) := by
  unfold impl_IsRule.f isRul; simp only [impl_in, impl_pat, Option.bind_some, impl_IsRule.j0, impl_IsRule.j1, impl_sit]
  cases inR e 1 5 <;> cases inR p 1 9 <;> cases isPat po ps <;> cases inR s 0 4 <;> simp
  by_cases h1 : a = 1
  · subst h1; simp [beq_dec]
  · by_cases h2 : a = 2
    · subst h2; simp [beq_dec]
    · by_cases h3 : a = 3
      · subst h3; simp
      · simp [h1, h2, h3]


theorem impl_CanAddRule_eq (k : Nat) (xs : List S35) (a b c d e f g h : Int) (hn : xs.length ≤ 1048576) (hk : xs.length + 5 < k) : impl_CanAddRule.f k xs a b c d e f g h = some (canAdd xs a b c d e f g h) := by
  obtain ⟨k, rfl⟩ : ∃ z, k = z + 2 := ⟨k - 2, by omega⟩
  unfold impl_CanAddRule.f canAdd
  rw [impl_rul, Option.bind_some, hasRule_eq _ xs a b c d e f g h hn (by omega), Option.bind_some, impl_RulesOf_eq _ xs a hn (by omega), Option.bind_some]
  show _ = some (!xs.any (sameRule a b c d e f g h) && _)
  cases isRul a b c d e f g h
  · simp
  · cases xs.any (sameRule a b c d e f g h)
    · by_cases h1 : ((xs.filter fun y => decide (y.f0 = a)).length : Int) < 6
      · rw [if_pos rfl, if_neg (by simp), if_pos h1]; simp [h1]
      · rw [if_pos rfl, if_neg (by simp), if_neg h1]; simp [h1]
    · simp

theorem eqRule_self (a0 : Int) (a1 : Int) (a2 : Int) (a3 : Int) (a4 : Int) (a5 : Int) (a6 : Int) (a7 : Int) : laws_eqRule.f a0 a1 a2 a3 a4 a5 a6 a7 a0 a1 a2 a3 a4 a5 a6 a7 = some true := by
  simp [laws_eqRule.f, laws_eqPattern.f, laws_eqSite.f]

theorem eqRuleS_self (k : Nat) (xs : List S35) (hn : xs.length ≤ 1048576) (hk : xs.length < k) : laws_eqRuleS.f k xs xs = some true := by
  have L := loop_up (fun k (_ : Unit) i => laws_eqRuleS.l0 k xs xs i) xs.length (fun _ _ => true) (fun _ _ => True) (by omega)
    (fun k s i hi hI ih => by
      simp only [laws_eqRuleS.l0]
      rw [if_pos (by omega), if_pos (by omega), if_pos (by omega)]
      simp only [eqRule_self, Option.bind_some, if_true]
      exact ih () trivial)
    (fun k s hI => by
      simp only [laws_eqRuleS.l0]
      rw [if_neg nlt])
  unfold laws_eqRuleS.f
  rw [if_pos rfl]
  exact loop_from L k hk () trivial


theorem FnExactCanAddRule (l : List S27) (a b c d e f g h : Int) (hm : l.length ≤ 9223372036854775807) {G : S27 → Prop} (hg : ∀ y ∈ l, G y) (_ : (Lit.int .i64 a).wf = true) (_ : (Lit.int .i64 b).wf = true) (_ : (Lit.int .i64 c).wf = true) (_ : (Lit.int .i64 d).wf = true) (_ : (Lit.int .i64 e).wf = true) (_ : (Lit.int .i64 f).wf = true) (_ : (Lit.int .i64 g).wf = true) (_ : (Lit.int .i64 h).wf = true) : ∃ k, laws_FnExactCanAddRule.f k l a b c d e f g h = some true := by
  refine ⟨l.length + l.length + 40, ?_⟩
  unfold laws_FnExactCanAddRule.f
  rw [szRule l 1048576 (by omega) (by omega) hm]
  simp only [Option.bind_some]
  by_cases hb : (1048576 : Int) < l.length
  · rw [if_pos hb, if_pos (by omega)]
  · rw [if_neg hb, if_neg (by omega)]
    have hl : l.length ≤ 1048576 := by omega
    have hc : (l.map cvRule).length = l.length := by simp
    simp (disch := omega) only [toRuleS_eq, toRule_eq, impl_CanAddRule_eq, spec_CanAddRule_eq, Option.bind_some, bne_self_eq_false, Bool.false_eq_true, if_false, eqRuleS_self, if_true]

end Go.Proofs.Ytacgichgadoddaa.Pure
