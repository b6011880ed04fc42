/- The printed function of the law FnGrants answers true, for all arguments, under no condition but that each whole number is one of its kind and that each slice has a length that fits. -/
import Derived.Test.YtacgichgadoddaaQIx31
namespace Go.Proofs.Ytacgichgadoddaa.Pure
open Go.RowKit Go.Proofs.Ytacgichgadoddaa.QI Go.Proofs.YtacgichgadoddaaW.PrintWords Go.Proofs.YtacgichgadoddaaW.PrintLast
set_option linter.unusedVariables false
set_option linter.unusedSimpArgs false
theorem wr {i : Int} (h0 : -9223372036854775808 ≤ i) (h1 : i ≤ 9223372036854775807) : wrap64 i = i := by unfold wrap64; omega
theorem beq_dec (a b : Int) : (a == b) = decide (a = b) := by by_cases h : a = b <;> simp [h]
theorem and_if (p : Prop) [Decidable p] (c : Bool) : (if p then some c else some false) = some (decide p && c) := by
  by_cases h : p <;> simp [h]
theorem or_if (p : Prop) [Decidable p] (c : Bool) : (if p then some true else some c) = some (decide p || c) := by
  by_cases h : p <;> simp [h]
def inR (a b c : Int) : Bool := decide (b ≤ a) && decide (a ≤ c)
def isPat (o s : Int) : Bool := inR o 0 9 && inR s (-1) 9
def isSit (o s : Int) : Bool := inR o 1 9 && inR s 0 9
def mtch (po ps o s : Int) : Bool := isPat po ps && (isSit o s && ((decide (po = 0) || decide (po = o)) && (decide (ps = -1) || decide (ps = s))))
def narr (po ps qo qs : Int) : Bool := isPat po ps && (isPat qo qs && ((decide (qo = 0) || decide (po = qo)) && (decide (qs = -1) || decide (ps = qs))))
def isGra (e po ps k f u : Int) : Bool := inR e 1 5 && (isPat po ps && (inR k 1 4 && (decide (0 ≤ f) && (decide (f ≤ u) && decide (u ≤ 10000)))))
def isLim (e po ps k : Int) : Bool := inR e 0 5 && (isPat po ps && inR k 0 4)
def covr (e po ps k f u : Int) (cl : Bool) (ext o s kind tick : Int) (ck : Bool) : Bool :=
  isGra e po ps k f u && (decide (e = ext) && (decide (k = kind) && (mtch po ps o s && (inR tick f u && (ck || !cl)))))
def isRul (e p po ps s a o b : Int) : Bool :=
  inR e 1 5 && (inR p 1 9 && (isPat po ps && (inR s 0 4 && ((decide (a = 1) || decide (a = 2)) && (decide (o = 0) && decide (b = 0)) || decide (a = 3) && isSit o b))))
def isReq (o s t : Int) : Bool := isSit o s && inR t 1 4
def appl (e p po ps s a o b qo qs qt : Int) : Bool := isRul e p po ps s a o b && (isReq qo qs qt && (mtch po ps qo qs && (decide (s = 0) || decide (s = qt))))
def isLen (e po ps k f u : Int) (cl : Bool) : Bool := isGra e po ps k f u && (decide (po ≠ 0) && (decide (ps ≠ -1) && ((decide (k = 1) || decide (k = 2)) && (decide (u = f + 5) && !cl))))
def isLab (x : Int) : Bool := inR x 0 1022 && decide (Int.tmod x 2 = 0)
def befo (ae ap aa ao ab be bp ba bo bb : Int) : Bool :=
  if ap = bp then (if aa = ba then (if ae = be then (if ao = bo then decide (ab < bb) else decide (ao < bo)) else decide (ae < be)) else decide (aa < ba)) else decide (bp < ap)
def within (e po ps k f u : Int) (cl : Bool) (e' po' ps' k' f' u' : Int) (cl' : Bool) : Bool :=
  isGra e po ps k f u && (isGra e' po' ps' k' f' u' && (decide (e = e') && (decide (k = k') && (narr po ps po' ps' && (decide (f' ≤ f) && (decide (u ≤ u') && (cl || !cl')))))))
theorem take_set1 {α : Type} (s : List α) (i : Nat) (v : α) (h : i < s.length) : (s.set i v).take (i + 1) = s.take i ++ [v] := by
  rw [List.take_succ_eq_append_getElem (by simpa using h), List.take_set, List.set_eq_of_length_le (by simp; omega)]
  simp
theorem loop_up {σ ρ : Type} (g : Nat → σ → Int → Option ρ) (n : Nat) (out : σ → Nat → ρ) (I : σ → Nat → Prop) (hn : n ≤ 9223372036854775806)
    (hstep : ∀ (k : Nat) (s : σ) (i : Nat), i < n → I s i → (∀ s', I s' (i + 1) → g k s' (wrap64 ((i : Int) + 1)) = some (out s' (i + 1))) → g (k + 1) s (i : Int) = some (out s i))
    (hend : ∀ (k : Nat) (s : σ), I s n → g (k + 1) s (n : Int) = some (out s n)) :
    ∀ (d k : Nat) (s : σ) (i : Nat), i + d = n → d < k → I s i → g k s (i : Int) = some (out s i) := by
  intro d
  induction d with
  | zero =>
    intro k s i hi hk hI
    obtain ⟨k, rfl⟩ : ∃ m, k = m + 1 := ⟨k - 1, by omega⟩
    obtain rfl : i = n := by omega
    exact hend k s hI
  | succ d ih =>
    intro k s i hi hk hI
    obtain ⟨k, rfl⟩ : ∃ m, k = m + 1 := ⟨k - 1, by omega⟩
    refine hstep k s i (by omega) hI fun s' hI' => ?_
    have := ih k s' (i + 1) (by omega) (by omega) hI'
    rw [wr (by omega) (by omega)]
    exact_mod_cast this
theorem loop_from {σ ρ : Type} {g : Nat → σ → Int → Option ρ} {n : Nat} {out : σ → Nat → ρ} {I : σ → Nat → Prop} (h : ∀ (d k : Nat) (s : σ) (i : Nat), i + d = n → d < k → I s i → g k s (i : Int) = some (out s i))
    (k : Nat) (hk : n < k) (s : σ) (hI : I s 0) : g k s 0 = some (out s 0) := by
  have := h n k s 0 (by omega) hk hI
  exact_mod_cast this
theorem drop_at {α : Type} (xs : List α) (i : Nat) (h : i < xs.length) : xs.drop i = xs[i] :: xs.drop (i + 1) := List.drop_eq_getElem_cons h

theorem nlt {n : Nat} : ¬ (n : Int) < (n : Int) := by omega
/-- where a list is copied element by element into a made one -/
theorem rd_at {α : Type} (z : α) (xs : List α) (i : Nat) (h : i < xs.length) : xs.getD (i : Int).toNat z = xs[i] := by simp [h]

theorem loop_upm {σ ρ : Type} (m : Nat) (g : Nat → σ → Int → Option ρ) (n : Nat) (out : σ → Nat → ρ) (I : σ → Nat → Prop) (hn : n ≤ 9223372036854775806)
    (hstep : ∀ (k : Nat) (s : σ) (i : Nat), m ≤ k → i < n → I s i → (∀ s', I s' (i + 1) → g k s' (wrap64 ((i : Int) + 1)) = some (out s' (i + 1))) → g (k + 1) s (i : Int) = some (out s i))
    (hend : ∀ (k : Nat) (s : σ), m ≤ k → I s n → g (k + 1) s (n : Int) = some (out s n)) :
    ∀ (d k : Nat) (s : σ) (i : Nat), i + d = n → d + m < k → I s i → g k s (i : Int) = some (out s i) := by
  intro d
  induction d with
  | zero =>
    intro k s i hi hk hI
    obtain ⟨k, rfl⟩ : ∃ m, k = m + 1 := ⟨k - 1, by omega⟩
    obtain rfl : i = n := by omega
    exact hend k s (by omega) hI
  | succ d ih =>
    intro k s i hi hk hI
    obtain ⟨k, rfl⟩ : ∃ m, k = m + 1 := ⟨k - 1, by omega⟩
    refine hstep k s i (by omega) (by omega) hI fun s' hI' => ?_
    have := ih k s' (i + 1) (by omega) (by omega) hI'
    rw [wr (by omega) (by omega)]
    exact_mod_cast this
theorem loop_fromm {σ ρ : Type} {m : Nat} {g : Nat → σ → Int → Option ρ} {n : Nat} {out : σ → Nat → ρ} {I : σ → Nat → Prop} (h : ∀ (d k : Nat) (s : σ) (i : Nat), i + d = n → d + m < k → I s i → g k s (i : Int) = some (out s i))
    (k : Nat) (hk : n + m < k) (s : σ) (hI : I s 0) : g k s 0 = some (out s 0) := by
  have := h n k s 0 (by omega) hk hI
  exact_mod_cast this
theorem loop_run {σ ρ : Type} (m : Nat) (g : Nat → σ → Int → Option ρ) (n : Nat) (out : σ → Nat → ρ) (I : σ → Nat → Prop) (hn : n ≤ 9223372036854775806)
    (hstep : ∀ (k : Nat) (s : σ) (i : Nat), m ≤ k → i < n → I s i → (∀ s', I s' (i + 1) → g k s' (wrap64 ((i : Int) + 1)) = some (out s' (i + 1))) → g (k + 1) s (i : Int) = some (out s i))
    (hend : ∀ (k : Nat) (s : σ), m ≤ k → I s n → g (k + 1) s (n : Int) = some (out s n)) (k : Nat) (hk : n + m < k) (s : σ) (hI : I s 0) : g k s 0 = some (out s 0) :=
  loop_fromm (loop_upm m g n out I hn hstep hend) k hk s hI
theorem if_and2 {α : Type} (a : Bool) (p : Prop) [Decidable p] (x y : α) : (if a = true then (if p then x else y) else y) = if (a && decide p) = true then x else y := by
  cases a <;> by_cases h : p <;> simp [h]

theorem if_nand {α : Type} (a b : Bool) (x y : α) : (if a = true then (if b = true then y else x) else x) = if (!(a && b)) = true then x else y := by
  cases a <;> cases b <;> simp
theorem rdPattern_i (xs : List S32) (i : Nat) (h : i < xs.length) : rd_T32 xs (i : Int) = xs[i] := rd_at _ xs i h
theorem rdGrant_i (xs : List S48) (i : Nat) (h : i < xs.length) : rd_T48 xs (i : Int) = xs[i] := rd_at _ xs i h

def sameGs (a b c d e f : Int) (g : Bool) (r : S48) : Bool := (r.f0 == a && ((r.f1.f0 == b && (r.f1.f1 == c)) && (r.f2 == d && (r.f3 == e && (r.f4 == f && (r.f5 == g))))))
def addG (xs : List S48) (a b c d e f : Int) (g : Bool) : List S48 × Bool := if xs.any (sameGs a b c d e f g) = true then (xs, false) else if isGra a b c d e f = true then (if (xs.length : Int) ≥ 16 then (xs, false) else (xs ++ [⟨a, ⟨b, c⟩, d, e, f, g⟩], true)) else (xs, false)
theorem addG_len (xs : List S48) (a b c d e f : Int) (g : Bool) (hn : xs.length ≤ 1048576) : (addG xs a b c d e f g).1.length ≤ 1048576 ∧ (addG xs a b c d e f g).1.length ≤ xs.length + 1 := by
  unfold addG
  split
  · simp only; omega
  · split
    · split
      · simp only; omega
      · simp only [List.length_append, List.length_singleton]; omega
    · simp only; omega

theorem impl_in (a b c : Int) : impl_InRange.f a b c = some (inR a b c) := by
  unfold impl_InRange.f inR; exact and_if _ _

theorem impl_pat (a b : Int) : impl_IsPattern.f a b = some (isPat a b) := by
  unfold impl_IsPattern.f isPat; simp only [impl_in, Option.bind_some]; cases inR a 0 9 <;> simp

theorem impl_gra (e po ps k f u : Int) (c : Bool) : impl_IsGrant.f e po ps k f u c = some (isGra e po ps k f u) := by
  unfold impl_IsGrant.f isGra; simp only [impl_in, impl_pat, Option.bind_some]
  cases inR e 1 5 <;> cases isPat po ps <;> cases inR k 1 4 <;> simp
  by_cases h1 : 0 ≤ f <;> by_cases h2 : f ≤ u <;> simp [h1, h2]


theorem cloneGrant_eq (xs : List S48) (hn : xs.length ≤ 1048576) : impl_Grant_91.f xs = some xs := by
  unfold impl_Grant_91.f
  rw [Option.bind_some, if_pos (by simp; omega), List.nil_append]


def sameGrant (a b c d e f : Int) (g : Bool) (r : S48) : Bool := (r.f0 == a && ((r.f1.f0 == b && (r.f1.f1 == c)) && (r.f2 == d && (r.f3 == e && (r.f4 == f && (r.f5 == g))))))
theorem sameGrant_c (a b c d e f : Int) (g : Bool) (r : S48) : (a == r.f0 && ((b == r.f1.f0 && (c == r.f1.f1)) && (d == r.f2 && (e == r.f3 && (f == r.f4 && (g == r.f5)))))) = sameGrant a b c d e f g r := by
  have E0 : ∀ x y : Int, (x == y) = (y == x) := fun x y => by rw [beq_dec, beq_dec]; exact decide_eq_decide.2 eq_comm
  have E1 : ∀ x y : Bool, (x == y) = (y == x) := by decide
  unfold sameGrant
  rw [E0 a, E0 b, E0 c, E0 d, E0 e, E0 f, E1 g]

theorem ixGrant_l (k : Nat) (xs : List S48) (a b c d e f : Int) (g : Bool) (hn : xs.length ≤ 1048576) (hk : xs.length < k) : impl_Grant_131.f k xs a b c d e f g = some (if xs.any (sameGrant a b c d e f g) then ((xs.findIdx (sameGrant a b c d e f g) : Nat) : Int) else -1) := by
  have L := loop_run 0 (fun k (_ : Unit) i => impl_Grant_131.l0 k xs (xs.length : Int) i a b c d e f g) xs.length (fun _ i => if (xs.drop i).any (sameGrant a b c d e f g) then ((i + (xs.drop i).findIdx (sameGrant a b c d e f g) : Nat) : Int) else -1) (fun _ _ => True) (by omega)
    (fun k u_ i hm hi hI ih => by
      have hd := drop_at xs i hi
      have hr := rdGrant_i xs i hi
      generalize xs[i] = r at hd hr
      have ih' := ih () trivial
      try dsimp only at ih'
      simp only [impl_Grant_131.l0]
      rw [if_pos (by omega), if_pos (by omega), if_pos (by omega)]
      simp only [hr]
      rw [sameGrant_c, ih', hd, List.any_cons, List.findIdx_cons]
      cases sameGrant a b c d e f g r
      · simp only [Bool.false_or, Bool.false_eq_true, if_false, cond_false]
        congr 1
        split
        · omega
        · rfl
      · simp)
    (fun k u_ hm hI => by
      simp only [impl_Grant_131.l0]
      rw [if_neg nlt, List.drop_of_length_le (Nat.le_refl _)]
      simp) k hk () trivial
  try dsimp only at L
  unfold impl_Grant_131.f
  rw [L, List.drop_zero, Nat.zero_add]


theorem hasGrant_eq (k : Nat) (xs : List S48) (a b c d e f : Int) (g : Bool) (hn : xs.length ≤ 1048576) (hk : xs.length < k) : impl_Grant_92.f k xs a b c d e f g = some (xs.any (sameGrant a b c d e f g)) := by
  unfold impl_Grant_92.f
  rw [ixGrant_l k xs a b c d e f g hn hk, Option.bind_some]
  congr 1
  split
  · next h => rw [h]; exact decide_eq_true (by omega)
  · next h => rw [Bool.eq_false_iff.2 h]; rfl


theorem bind_ok {α β : Type} {o : Option α} {f : α → Option β} {Q : α → Prop} {R : β → Prop} (h : ∃ r, o = some r ∧ Q r) (hf : ∀ r, Q r → ∃ y, f r = some y ∧ R y) : ∃ y, o.bind f = some y ∧ R y := by
  obtain ⟨r, rfl, q⟩ := h; exact hf r q
theorem if_ok {β : Type} {p : Prop} [Decidable p] {a b : Option β} {R : β → Prop} (h : p → ∃ y, a = some y ∧ R y) (h' : ¬ p → ∃ y, b = some y ∧ R y) : ∃ y, (if p then a else b) = some y ∧ R y := by
  by_cases c : p
  · rw [if_pos c]; exact h c
  · rw [if_neg c]; exact h' c
theorem and255 (a : Int) : 0 ≤ Go.bits .and .i64 a 255 ∧ Go.bits .and .i64 a 255 ≤ 255 := by
  have h : ((BitVec.ofInt (IntKind.bits .i64) a) &&& (BitVec.ofInt (IntKind.bits .i64) 255)).toNat ≤ 255 := by
    rw [BitVec.toNat_and]; exact Nat.le_trans Nat.and_le_right (by decide)
  show 0 ≤ IntKind.wrap .i64 _ ∧ IntKind.wrap .i64 _ ≤ 255
  generalize ((BitVec.ofInt (IntKind.bits .i64) a) &&& (BitVec.ofInt (IntKind.bits .i64) 255)).toNat = n at h
  have e : IntKind.wrap .i64 (n : Int) = (n : Int) := by rw [i64_w]; exact wr (i := (n : Int)) (by omega) (by omega)
  rw [e]; omega

theorem new_ok (s : List Int) (hs : s.length ≤ 1048576) : ∀ (d k : Nat) (y : Int) (i : Nat), i + d = s.length → d < k → ∃ r, spec_l1New.l0 k s y (i : Int) = some r ∧ r.1 = s ∧ r.2.1 = 0 := by
  intro d
  induction d with
  | zero =>
    intro k y i hi hk
    obtain ⟨k, rfl⟩ : ∃ m, k = m + 1 := ⟨k - 1, by omega⟩
    simp only [spec_l1New.l0]
    rw [if_neg (by omega)]
    exact ⟨_, rfl, rfl, rfl⟩
  | succ d ih =>
    intro k y i hi hk
    obtain ⟨k, rfl⟩ : ∃ m, k = m + 1 := ⟨k - 1, by omega⟩
    simp only [spec_l1New.l0]
    rw [if_pos (by omega)]
    refine if_ok (fun _ => ?_) (fun _ => ⟨_, rfl, rfl, rfl⟩)
    rw [if_pos (by omega), wr (i := (i : Int) + 1) (by omega) (by omega)]
    exact ih k _ (i + 1) (by omega) (by omega)
theorem l1New_ok (k : Nat) (s : List Int) (hs : s.length ≤ 1048576) (hk : s.length < k) : ∃ r, spec_l1New.f k s = some r ∧ r.1 = s ∧ r.2.1 = 0 := by
  unfold spec_l1New.f
  exact new_ok s hs s.length k _ 0 (by omega) hk


theorem byte_ok (s : List Int) (p x : Int) (hs : s.length ≤ 1048576) (hp : 0 ≤ p) : ∃ r, spec_l1Byte.f s p x = some r ∧ (0 ≤ r.1 ∧ r.1 ≤ 255) ∧ 0 ≤ r.2.1 := by
  unfold spec_l1Byte.f
  refine if_ok (fun h => ?_) (fun _ => ⟨_, rfl, and255 _, hp⟩)
  rw [if_pos hp, wr (i := p + 1) (by omega) (by omega)]
  exact ⟨_, rfl, and255 _, by show (0 : Int) ≤ p + 1; omega⟩


theorem below_ok (s : List Int) (p x n : Int) (hs : s.length ≤ 1048576) (hp : 0 ≤ p) (h0 : 0 < n) (h1 : n ≤ 256) : ∃ r, spec_l1Below.f s p x n = some r ∧ (0 ≤ r.1 ∧ r.1 < n) ∧ 0 ≤ r.2.1 := by
  unfold spec_l1Below.f
  rw [if_neg (by omega), if_pos h1]
  refine bind_ok (byte_ok s p x hs hp) fun r hr => ?_
  rw [if_neg (by omega)]
  exact ⟨_, rfl, ⟨Int.tmod_nonneg _ hr.1.1, Int.tmod_lt_of_pos _ h0⟩, hr.2⟩


theorem once_ok (s : List Int) (p x n : Int) (hs : s.length ≤ 1048576) (hp : 0 ≤ p) (h0 : 0 < n) (h1 : n ≤ 256) : ∃ r, spec_l1Once.f s p x n = some r ∧ 0 ≤ r.2.1 := by
  unfold spec_l1Once.f
  exact bind_ok (below_ok s p x n hs hp h0 h1) fun r hr => ⟨_, rfl, hr.2⟩


theorem pattern_ok (s : List Int) (p x : Int) (hs : s.length ≤ 1048576) (hp : 0 ≤ p) : ∃ r, spec_l9Pattern.f s p x = some r ∧ 0 ≤ r.2.2.1 := by
  unfold spec_l9Pattern.f
  exact bind_ok (below_ok s p x _ hs hp (by omega) (by omega)) fun r hr => bind_ok (below_ok s _ _ _ hs hr.2 (by omega) (by omega)) fun r hr => ⟨_, rfl, hr.2⟩


theorem l10_ok (s : List Int) (p x : Int) (hs : s.length ≤ 1048576) (hp : 0 ≤ p) : ∃ r, spec_l10Draw.f s p x = some r ∧ 0 ≤ r.2.2.2.2.2.2.2.1 := by
  unfold spec_l10Draw.f
  exact bind_ok (below_ok s p x _ hs hp (by omega) (by omega)) fun r1 h1 => bind_ok (below_ok s _ _ _ hs h1.2 (by omega) (by omega)) fun r2 h2 => bind_ok (pattern_ok s _ _ hs h2.2) fun r3 h3 =>
    bind_ok (below_ok s _ _ _ hs h3 (by omega) (by omega)) fun r4 h4 => bind_ok (below_ok s _ _ _ hs h4.2 (by omega) (by omega)) fun r5 h5 => bind_ok (once_ok s _ _ _ hs h5.2 (by omega) (by omega)) fun r6 h6 => ⟨_, rfl, h6⟩


theorem l10_l0 (s : List Int) (hs : s.length ≤ 1048576) : ∀ (d k : Nat) (xs : List S48) (p x : Int), d < k → xs.length + d ≤ 1000 → 0 ≤ p → ∃ r, spec_l10List.l0 k xs (d : Int) s p x = some r ∧ r.1.length ≤ xs.length + d ∧ 0 ≤ r.2.1 := by
  intro d
  induction d with
  | zero =>
    intro k xs p x hk hl hp
    obtain ⟨k, rfl⟩ : ∃ m, k = m + 1 := ⟨k - 1, by omega⟩
    simp only [spec_l10List.l0]
    rw [if_neg (by omega)]
    exact ⟨_, rfl, Nat.le_refl _, hp⟩
  | succ d ih =>
    intro k xs p x hk hl hp
    obtain ⟨k, rfl⟩ : ∃ m, k = m + 1 := ⟨k - 1, by omega⟩
    simp only [spec_l10List.l0]
    rw [if_pos (by omega)]
    refine bind_ok (l10_ok s p x hs hp) fun r hr => ?_
    rw [if_pos (by omega), wr (by omega) (by omega), show (((d + 1 : Nat) : Int) - 1) = (d : Int) by omega]
    obtain ⟨r2, e, h1, h2⟩ := ih k (xs ++ [⟨r.1, ⟨r.2.1, r.2.2.1⟩, r.2.2.2.1, r.2.2.2.2.1, r.2.2.2.2.2.1, r.2.2.2.2.2.2.1⟩]) r.2.2.2.2.2.2.2.1 r.2.2.2.2.2.2.2.2 (by omega) (by simp; omega) hr
    simp only [List.length_append, List.length_singleton] at h1
    exact ⟨r2, e, by omega, h2⟩
theorem l10list_ok (k : Nat) (s : List Int) (p x : Int) (hs : s.length ≤ 1048576) (hk : 20 < k) (hp : 0 ≤ p) : ∃ r, spec_l10List.f k s p x = some r ∧ r.1.length ≤ 20 ∧ 0 ≤ r.2.1 := by
  unfold spec_l10List.f
  refine bind_ok (below_ok s p x 7 hs hp (by omega) (by omega)) fun r hr => ?_
  obtain ⟨r2, e, h1, h2⟩ := l10_l0 s hs r.1.toNat k [] r.2.1 r.2.2 (by omega) (by simp; omega) hr.2
  rw [show ((r.1.toNat : Nat) : Int) = r.1 by omega] at e
  exact ⟨r2, e, by simp at h1; omega, h2⟩


theorem site_ok (s : List Int) (p x : Int) (hs : s.length ≤ 1048576) (hp : 0 ≤ p) : ∃ r, spec_l9Site.f s p x = some r ∧ 0 ≤ r.2.2.1 := by
  unfold spec_l9Site.f
  exact bind_ok (below_ok s p x _ hs hp (by omega) (by omega)) fun r hr => bind_ok (below_ok s _ _ _ hs hr.2 (by omega) (by omega)) fun r hr => ⟨_, rfl, hr.2⟩

theorem impl_sit (a b : Int) : impl_IsSite.f a b = some (isSit a b) := by
  unfold impl_IsSite.f isSit; simp only [impl_in, Option.bind_some]; cases inR a 1 9 <;> simp


theorem int_ok (s : List Int) (p x : Int) (l : List Int) (hs : s.length ≤ 1048576) (hp : 0 ≤ p) (h0 : 0 < l.length) (h1 : l.length ≤ 256) : ∃ r, spec_l1Int.f s p x l = some r ∧ 0 ≤ r.2.1 := by
  unfold spec_l1Int.f
  refine bind_ok (below_ok s p x _ hs hp (by omega) (by omega)) fun r hr => ?_
  rw [if_pos hr.1.1, if_pos hr.1.2]
  exact ⟨_, rfl, hr.2⟩


theorem raw_ok (s : List Int) (p x : Int) (hs : s.length ≤ 1048576) (hp : 0 ≤ p) : ∃ r, spec_l9Raw.f s p x = some r ∧ 0 ≤ r.2.1 := by
  unfold spec_l9Raw.f
  exact bind_ok (int_ok s p x _ hs hp (by decide) (by decide)) fun r hr => ⟨_, rfl, hr⟩


theorem drawAllowed_ok (k : Nat) (s : List Int) (hs : s.length ≤ 1048576) (hk : s.length + 200 < k) : ∃ r, spec_DrawIsAllowed.f k s = some r ∧ r.1.length ≤ 20 := by
  unfold spec_DrawIsAllowed.f
  refine bind_ok (l1New_ok k s hs (by omega)) fun r hr => ?_
  obtain ⟨e1, e2⟩ := hr
  rw [e1]
  exact bind_ok (l10list_ok k s _ _ hs (by omega) (by omega)) fun r2 h2 => bind_ok (below_ok s _ _ _ hs h2.2 (by omega) (by omega)) fun r3 h3 => bind_ok (site_ok s _ _ hs h3.2) fun r4 h4 =>
    bind_ok (below_ok s _ _ _ hs h4 (by omega) (by omega)) fun r5 h5 => bind_ok (below_ok s _ _ _ hs h5.2 (by omega) (by omega)) fun r6 h6 => bind_ok (once_ok s _ _ _ hs h6.2 (by omega) (by omega)) fun r7 h7 => ⟨_, rfl, h2.1⟩

theorem impl_mtch (a b c d : Int) : impl_MatchSite.f a b c d = some (mtch a b c d) := by
  unfold impl_MatchSite.f mtch; simp only [impl_pat, impl_sit, Option.bind_some]
  cases isPat a b <;> cases isSit c d <;> simp
  by_cases h1 : a = 0 <;> by_cases h2 : a = c <;> by_cases h3 : b = -1 <;> simp [h1, h2, h3] <;> simp [beq_dec]

theorem impl_covr (e po ps k f u : Int) (cl : Bool) (ext o s kind tick : Int) (ck : Bool) : impl_Covers.f e po ps k f u cl ext o s kind tick ck = some (covr e po ps k f u cl ext o s kind tick ck) := by
  unfold impl_Covers.f covr; simp only [impl_gra, impl_mtch, impl_in, Option.bind_some]
  cases isGra e po ps k f u <;> cases mtch po ps o s <;> cases inR tick f u <;> cases ck <;> by_cases h1 : e = ext <;> by_cases h2 : k = kind <;> simp [h1, h2]

theorem impl_IsAllowed_eq (k : Nat) (xs : List S48) (e o s kd t : Int) (ck : Bool) (hn : xs.length ≤ 1048576) (hk : xs.length + 0 < k) : impl_IsAllowed.f k xs e o s kd t ck = some (xs.any fun r => covr r.f0 r.f1.f0 r.f1.f1 r.f2 r.f3 r.f4 r.f5 e o s kd t ck) := by
  have L := loop_run (0) (fun k (_ : Unit) i => impl_IsAllowed.l0 k e kd t ck xs (xs.length : Int) i o s) xs.length (fun _ i => (xs.drop i).any fun r => covr r.f0 r.f1.f0 r.f1.f1 r.f2 r.f3 r.f4 r.f5 e o s kd t ck) (fun _ _ => True) (by omega)
    (fun k u_ i hm hi hI ih => by
      have hd := drop_at xs i hi
      have hr := rdGrant_i xs i hi
      generalize xs[i] = r at hd hr
      have ih' := ih () trivial
      try dsimp only at ih'
      simp only [impl_IsAllowed.l0]
      rw [if_pos (by omega), if_pos (by omega), if_pos (by omega)]
      simp only [hr, impl_covr, Option.bind_some]
      rw [hd, List.any_cons, ih']
      cases covr r.f0 r.f1.f0 r.f1.f1 r.f2 r.f3 r.f4 r.f5 e o s kd t ck <;> simp)
    (fun k u_ hm hI => by
      simp only [impl_IsAllowed.l0]
      rw [if_neg nlt, List.drop_of_length_le (Nat.le_refl _)]
      rfl) k hk () trivial
  try dsimp only at L
  unfold impl_IsAllowed.f
  rw [L]
  rfl

theorem impl_GrantsOf_eq (k : Nat) (xs : List S48) (x : Int) (hn : xs.length ≤ 1048576) (hk : xs.length < k) : impl_GrantsOf.f k xs x = some (xs.filter fun r => decide (r.f0 = x)) := by
  have L := loop_run 0 (fun k (s : List S48) i => impl_GrantsOf.l0 k x s xs (xs.length : Int) i) xs.length (fun s i => s ++ (xs.drop i).filter fun r => decide (r.f0 = x)) (fun s i => s.length ≤ i) (by omega)
    (fun k s i hm hi hI ih => by
      have hd := drop_at xs i hi
      have hr := rdGrant_i xs i hi
      generalize xs[i] = r at hd hr
      simp only [impl_GrantsOf.l0]
      rw [if_pos (by omega), if_pos (by omega), if_pos (by omega)]
      simp only [hr]
      rw [hd]
      by_cases hp : (decide (r.f0 = x)) = true
      · have hp' := hp
        rw [if_pos (of_decide_eq_true hp)]
        rw [if_pos (by omega), ih _ (by simp; omega)]
        simp only [List.filter_cons, hp', ↓reduceIte, List.append_assoc]
        rfl
      · have hp' := hp
        rw [if_neg (fun h => hp (decide_eq_true h))]
        rw [ih _ (by omega)]
        simp only [List.filter_cons, hp', ↓reduceIte, Bool.false_eq_true])
    (fun k s hm hI => by
      simp only [impl_GrantsOf.l0]
      rw [if_neg nlt, List.drop_of_length_le (Nat.le_refl _)]
      simp) k hk [] (by simp)
  try dsimp only at L
  unfold impl_GrantsOf.f
  rw [L]
  simp


theorem any_ok (s : List Int) (p x : Int) (hs : s.length ≤ 1048576) (hp : 0 ≤ p) : ∃ r, spec_l9Any.f s p x = some r ∧ 0 ≤ r.2.2.1 := by
  unfold spec_l9Any.f
  refine bind_ok (pattern_ok s p x hs hp) fun r hr => bind_ok (below_ok s _ _ _ hs hr (by omega) (by omega)) fun r2 hr2 => if_ok (fun _ => ?_) (fun _ => if_ok (fun _ => ?_) (fun _ => ?_))
  · exact bind_ok (raw_ok s _ _ hs hr2.2) fun r3 hr3 => ⟨_, rfl, hr3⟩
  · exact bind_ok (raw_ok s _ _ hs hr2.2) fun r3 hr3 => ⟨_, rfl, hr3⟩
  · exact ⟨_, rfl, hr2.2⟩


theorem l10any_ok (s : List Int) (p x : Int) (hs : s.length ≤ 1048576) (hp : 0 ≤ p) : ∃ r, spec_l10Any.f s p x = some r ∧ 0 ≤ r.2.2.2.2.2.2.2.1 := by
  unfold spec_l10Any.f
  refine bind_ok (l10_ok s p x hs hp) fun r1 h1 => bind_ok (below_ok s _ _ _ hs h1 (by omega) (by omega)) fun r2 h2 => ?_
  repeat' first
    | (refine if_ok (fun _ => ?_) (fun _ => ?_))
    | (refine bind_ok (raw_ok s _ _ hs h2.2) fun r3 h3 => ?_)
    | (refine bind_ok (int_ok s _ _ _ hs h2.2 (by decide) (by decide)) fun r3 h3 => ?_)
    | (refine bind_ok (any_ok s _ _ hs h2.2) fun r3 h3 => ?_)
    | (refine ⟨_, rfl, ?_⟩; first | exact h2.2 | assumption)


theorem drawExpire_ok (k : Nat) (s : List Int) (hs : s.length ≤ 1048576) (hk : s.length + 200 < k) : ∃ r, spec_DrawExpireGrants.f k s = some r ∧ r.1.length ≤ 20 := by
  obtain ⟨k, rfl⟩ : ∃ m, k = m + 1 := ⟨k - 1, by omega⟩
  unfold spec_DrawExpireGrants.f
  refine bind_ok (l1New_ok (k + 1) s hs (by omega)) fun r hr => ?_
  obtain ⟨e1, e2⟩ := hr
  rw [e1]
  refine bind_ok (l10list_ok (k + 1) s _ _ hs (by omega) (by omega)) fun r2 h2 => if_ok (fun hc => ?_) (fun _ => ?_)
  · refine bind_ok (once_ok s _ _ _ hs h2.2 (by omega) (by omega)) fun r3 h3 => ?_
    simp only [spec_DrawExpireGrants.j0]
    refine if_ok (fun _ => ?_) (fun _ => bind_ok (below_ok s _ _ _ hs h3 (by omega) (by omega)) fun r4 h4 => ⟨_, rfl, h2.1⟩)
    refine bind_ok (l10any_ok s _ _ hs h3) fun r4 h4 => ?_
    rw [if_pos (by omega)]
    exact bind_ok (below_ok s _ _ _ hs h4 (by omega) (by omega)) fun r5 h5 => ⟨_, rfl, by simp only [List.length_set]; exact h2.1⟩
  · simp only [spec_DrawExpireGrants.j0]
    rw [if_neg (by decide)]
    exact bind_ok (below_ok s _ _ _ hs h2.2 (by omega) (by omega)) fun r4 h4 => ⟨_, rfl, h2.1⟩

theorem impl_ExpireGrants_eq (k : Nat) (xs : List S48) (x : Int) (hn : xs.length ≤ 1048576) (hk : xs.length < k) : impl_ExpireGrants.f k xs x = some (xs.filter fun r => isGra r.f0 r.f1.f0 r.f1.f1 r.f2 r.f3 r.f4 && decide (r.f4 ≥ x)) := by
  have L := loop_run 0 (fun k (s : List S48) i => impl_ExpireGrants.l0 k x s xs (xs.length : Int) i) xs.length (fun s i => s ++ (xs.drop i).filter fun r => isGra r.f0 r.f1.f0 r.f1.f1 r.f2 r.f3 r.f4 && decide (r.f4 ≥ x)) (fun s i => s.length ≤ i) (by omega)
    (fun k s i hm hi hI ih => by
      have hd := drop_at xs i hi
      have hr := rdGrant_i xs i hi
      generalize xs[i] = r at hd hr
      simp only [impl_ExpireGrants.l0]
      rw [if_pos (by omega), if_pos (by omega), if_pos (by omega)]
      simp only [hr, impl_gra, Option.bind_some, if_and2]
      rw [hd]
      by_cases hp : (isGra r.f0 r.f1.f0 r.f1.f1 r.f2 r.f3 r.f4 && decide (r.f4 ≥ x)) = true
      · have hp' := hp
        rw [if_pos hp]
        rw [if_pos (by omega), ih _ (by simp; omega)]
        simp only [List.filter_cons, hp', ↓reduceIte, List.append_assoc]
        rfl
      · have hp' := hp
        rw [if_neg hp]
        rw [ih _ (by omega)]
        simp only [List.filter_cons, hp', ↓reduceIte, Bool.false_eq_true])
    (fun k s hm hI => by
      simp only [impl_ExpireGrants.l0]
      rw [if_neg nlt, List.drop_of_length_le (Nat.le_refl _)]
      simp) k hk [] (by simp)
  try dsimp only at L
  unfold impl_ExpireGrants.f
  rw [L]
  simp


theorem dag_l0 (a b c d e f : Int) (g : Bool) : ∀ (n k : Nat) (xs : List S48), 16 ≤ xs.length + n → xs.length ≤ 20 → n < k → ∃ r, spec_DrawAddGrant.l0 k xs a b c d e f g = some r ∧ r.1.length ≤ 20 := by
  intro n
  induction n with
  | zero =>
    intro k xs h1 h2 hk
    obtain ⟨k, rfl⟩ : ∃ m, k = m + 1 := ⟨k - 1, by omega⟩
    simp only [spec_DrawAddGrant.l0]
    rw [if_neg (by omega)]
    exact ⟨_, rfl, h2⟩
  | succ n ih =>
    intro k xs h1 h2 hk
    obtain ⟨k, rfl⟩ : ∃ m, k = m + 1 := ⟨k - 1, by omega⟩
    simp only [spec_DrawAddGrant.l0]
    refine if_ok (fun h => ?_) (fun _ => ⟨_, rfl, h2⟩)
    rw [if_pos (by omega)]
    exact ih k _ (by simp; omega) (by simp; omega) (by omega)
theorem dag_j1 (k : Nat) (s : List Int) (hs : s.length ≤ 1048576) (hk : 100 < k) (xs : List S48) (hx : xs.length ≤ 20) (p x : Int) (hp : 0 ≤ p) (a b c d e f : Int) (g : Bool) : ∃ r, spec_DrawAddGrant.j1 k xs s p x a b c d e f g = some r ∧ r.1.length ≤ 20 := by
  obtain ⟨k, rfl⟩ : ∃ m, k = m + 1 := ⟨k - 1, by omega⟩
  simp only [spec_DrawAddGrant.j1]
  exact bind_ok (once_ok s _ _ _ hs hp (by omega) (by omega)) fun r3 h3 => if_ok (fun _ => dag_l0 _ _ _ _ _ _ _ 16 k xs (by omega) hx (by omega)) (fun _ => ⟨_, rfl, hx⟩)
theorem drawGrant_ok (k : Nat) (s : List Int) (hs : s.length ≤ 1048576) (hk : s.length + 200 < k) : ∃ r, spec_DrawAddGrant.f k s = some r ∧ r.1.length ≤ 20 := by
  obtain ⟨k, rfl⟩ : ∃ m, k = m + 1 := ⟨k - 1, by omega⟩
  unfold spec_DrawAddGrant.f
  refine bind_ok (l1New_ok (k + 1) s hs (by omega)) fun r hr => ?_
  obtain ⟨e1, e2⟩ := hr
  rw [e1]
  refine bind_ok (l10list_ok (k + 1) s _ _ hs (by omega) (by omega)) fun r2 h2 => bind_ok (l10any_ok s _ _ hs h2.2) fun r3 h3 => if_ok (fun hc => ?_) (fun _ => ?_)
  · refine bind_ok (once_ok s _ _ _ hs h3 (by omega) (by omega)) fun r4 h4 => ?_
    simp only [spec_DrawAddGrant.j0]
    refine if_ok (fun _ => ?_) (fun _ => dag_j1 k s hs (by omega) _ h2.1 _ _ h4 _ _ _ _ _ _ _)
    refine bind_ok (below_ok s _ _ _ hs h4 (by omega) (by omega)) fun r5 h5 => ?_
    rw [if_pos h5.1.1, if_pos h5.1.2]
    exact dag_j1 k s hs (by omega) _ h2.1 _ _ h5.2 _ _ _ _ _ _ _
  · simp only [spec_DrawAddGrant.j0]
    rw [if_neg (by decide)]
    exact dag_j1 k s hs (by omega) _ h2.1 _ _ h3 _ _ _ _ _ _ _


theorem impl_AddGrant_eq (k : Nat) (xs : List S48) (a b c d e f : Int) (g : Bool) (hn : xs.length ≤ 1048576) (hk : xs.length < k) : impl_AddGrant.f k xs a b c d e f g = some (addG xs a b c d e f g) := by
  unfold impl_AddGrant.f addG
  rw [cloneGrant_eq xs hn, Option.bind_some, impl_gra, Option.bind_some, hasGrant_eq k xs _ _ _ _ _ _ _ hn hk, Option.bind_some]
  show _ = some (if xs.any (sameGrant a b c d e f g) = true then _ else _)
  cases isGra a b c d e f
  · cases xs.any (sameGrant a b c d e f g) <;> rfl
  · cases xs.any (sameGrant a b c d e f g)
    · by_cases h1 : (xs.length : Int) ≥ 16
      · rw [if_pos rfl, if_neg (by simp), if_pos h1, if_neg (by simp), if_pos rfl, if_pos h1]
      · rw [if_pos rfl, if_neg (by simp), if_neg h1, if_pos (by omega), if_neg (by simp), if_pos rfl, if_neg h1]
    · rfl


theorem any_of_ext (e o s kd t : Int) (ck : Bool) : ∀ xs : List S48, ((xs.filter fun r => decide (r.f0 = e)).any fun r => covr r.f0 r.f1.f0 r.f1.f1 r.f2 r.f3 r.f4 r.f5 e o s kd t ck) = xs.any fun r => covr r.f0 r.f1.f0 r.f1.f1 r.f2 r.f3 r.f4 r.f5 e o s kd t ck
  | [] => rfl
  | r :: xs => by
    rw [List.filter_cons, List.any_cons]
    by_cases h : r.f0 = e
    · rw [if_pos (decide_eq_true h), List.any_cons, any_of_ext e o s kd t ck xs]
    · have hc : covr r.f0 r.f1.f0 r.f1.f1 r.f2 r.f3 r.f4 r.f5 e o s kd t ck = false := by unfold covr; simp [h]
      rw [if_neg (by simpa using h), any_of_ext e o s kd t ck xs, hc, Bool.false_or]
theorem any_of_live (e o s kd t : Int) (ck : Bool) : ∀ xs : List S48, ((xs.filter fun r => isGra r.f0 r.f1.f0 r.f1.f1 r.f2 r.f3 r.f4 && decide (r.f4 ≥ t)).any fun r => covr r.f0 r.f1.f0 r.f1.f1 r.f2 r.f3 r.f4 r.f5 e o s kd t ck) = xs.any fun r => covr r.f0 r.f1.f0 r.f1.f1 r.f2 r.f3 r.f4 r.f5 e o s kd t ck
  | [] => rfl
  | r :: xs => by
    rw [List.filter_cons, List.any_cons]
    by_cases h : (isGra r.f0 r.f1.f0 r.f1.f1 r.f2 r.f3 r.f4 && decide (r.f4 ≥ t)) = true
    · rw [if_pos h, List.any_cons, any_of_live e o s kd t ck xs]
    · have hc : covr r.f0 r.f1.f0 r.f1.f1 r.f2 r.f3 r.f4 r.f5 e o s kd t ck = false := by
        rw [Bool.eq_false_iff]
        intro hx
        apply h
        unfold covr inR at hx
        simp only [Bool.and_eq_true, decide_eq_true_eq] at hx ⊢
        exact ⟨hx.1, by omega⟩
      rw [if_neg h, any_of_live e o s kd t ck xs, hc, Bool.false_or]
theorem any_click (e o s kd t : Int) (xs : List S48) (h : (xs.any fun r => covr r.f0 r.f1.f0 r.f1.f1 r.f2 r.f3 r.f4 r.f5 e o s kd t false) = true) : (xs.any fun r => covr r.f0 r.f1.f0 r.f1.f1 r.f2 r.f3 r.f4 r.f5 e o s kd t true) = true := by
  rw [List.any_eq_true] at h ⊢
  obtain ⟨r, hr, hc⟩ := h
  refine ⟨r, hr, ?_⟩
  unfold covr at hc ⊢
  simp only [Bool.and_eq_true, Bool.false_or, Bool.true_or] at hc ⊢
  obtain ⟨a, b, c, d, f, _⟩ := hc
  exact ⟨a, b, c, d, f, trivial⟩
theorem grants_j2 (k : Nat) (s : List Int) (hs : s.length ≤ 1048576) (hk : s.length + 300 < k) : laws_FnGrants.j2 k s false = some true := by
  obtain ⟨k, rfl⟩ : ∃ m, k = m + 1 := ⟨k - 1, by omega⟩
  simp only [laws_FnGrants.j2]
  rw [if_neg (by decide)]
  obtain ⟨⟨xs, a, b, c, d, e, f, g⟩, e1, hl⟩ := drawGrant_ok k s hs (by omega)
  rw [e1, Option.bind_some]
  dsimp only at hl ⊢
  rw [impl_AddGrant_eq k xs _ _ _ _ _ _ _ (by omega) (by omega), Option.bind_some]
  unfold addG
  split
  · simp
  · split
    · next h2 =>
      split
      · simp
      · have hr : rd_T48 (xs ++ [(⟨a, ⟨b, c⟩, d, e, f, g⟩ : S48)]) (xs.length : Int) = ⟨a, ⟨b, c⟩, d, e, f, g⟩ := by
          rw [rdGrant_i _ xs.length (by simp)]; simp
        have hlen : ((xs ++ [(⟨a, ⟨b, c⟩, d, e, f, g⟩ : S48)]).length : Int) = wrap64 ((xs.length : Int) + 1) := by
          rw [wr (by omega) (by omega)]; simp
        dsimp only
        rw [if_pos rfl, if_pos hlen, impl_gra, Option.bind_some, h2, if_pos rfl, if_pos (by omega), if_pos (by simp; omega), hr]
        simp
    · simp
theorem grants_j1 (k : Nat) (s : List Int) (x4 x6 a b : Int) (ck : Bool) (hs : s.length ≤ 1048576) (hk : s.length + 400 < k) : laws_FnGrants.j1 k s x4 x6 ck false a b = some true := by
  obtain ⟨k, rfl⟩ : ∃ m, k = m + 1 := ⟨k - 1, by omega⟩
  simp only [laws_FnGrants.j1]
  rw [if_neg (by decide)]
  obtain ⟨⟨xs, t⟩, e1, hl⟩ := drawExpire_ok k s hs (by omega)
  rw [e1, Option.bind_some]
  dsimp only at hl ⊢
  have hf := List.length_filter_le (fun r : S48 => isGra r.f0 r.f1.f0 r.f1.f1 r.f2 r.f3 r.f4 && decide (r.f4 ≥ t)) xs
  rw [impl_ExpireGrants_eq k xs t (by omega) (by omega), Option.bind_some, impl_IsAllowed_eq k xs _ _ _ _ _ _ (by omega) (by omega), Option.bind_some, impl_IsAllowed_eq k _ _ _ _ _ _ _ (by omega) (by omega), Option.bind_some, any_of_live, if_neg (by simp), decide_eq_false (by omega)]
  exact grants_j2 k s hs (by omega)
theorem grants_l0 (s : List Int) (hs : s.length ≤ 1048576) (xs : List S48) (hx : xs.length ≤ 20) (x4 x6 x7 a b : Int) (ck : Bool) :
    ∀ (d k i : Nat) (c : Bool), i + d = xs.length → d + s.length + 500 < k → c = ((xs.take i).any fun r => covr r.f0 r.f1.f0 r.f1.f1 r.f2 r.f3 r.f4 r.f5 x4 a b x6 x7 ck) → laws_FnGrants.l0 k s xs x4 x6 x7 ck c (i : Int) a b = some true := by
  intro d
  induction d with
  | zero =>
    intro k i c hi hk hc
    obtain ⟨k, rfl⟩ : ∃ m, k = m + 1 := ⟨k - 1, by omega⟩
    simp only [laws_FnGrants.l0]
    have hf := List.length_filter_le (fun r : S48 => decide (r.f0 = x4)) xs
    rw [List.take_of_length_le (by omega)] at hc
    rw [if_neg (by omega), impl_IsAllowed_eq k xs _ _ _ _ _ _ (by omega) (by omega), Option.bind_some, ← hc, if_neg (by simp), impl_GrantsOf_eq k xs _ (by omega) (by omega), Option.bind_some,
      impl_IsAllowed_eq k _ _ _ _ _ _ _ (by omega) (by omega), Option.bind_some, any_of_ext, ← hc, if_neg (by simp), impl_IsAllowed_eq k xs _ _ _ _ _ _ (by omega) (by omega), Option.bind_some]
    have hj := grants_j1 k s x4 x6 a b ck hs (by omega)
    by_cases h : (xs.any fun r => covr r.f0 r.f1.f0 r.f1.f1 r.f2 r.f3 r.f4 r.f5 x4 a b x6 x7 false) = true
    · rw [if_pos h, impl_IsAllowed_eq k xs _ _ _ _ _ _ (by omega) (by omega), Option.bind_some, any_click _ _ _ _ _ _ h]
      exact hj
    · rw [if_neg h]; exact hj
  | succ d ih =>
    intro k i c hi hk hc
    obtain ⟨k, rfl⟩ : ∃ m, k = m + 1 := ⟨k - 1, by omega⟩
    simp only [laws_FnGrants.l0]
    have ht : xs.take (i + 1) = xs.take i ++ [xs[i]'(by omega)] := List.take_succ_eq_append_getElem (by omega)
    have hr := rdGrant_i xs i (by omega)
    rw [if_pos (by omega), wr (by omega) (by omega), show (i : Int) + 1 = ((i + 1 : Nat) : Int) by omega]
    by_cases h : c = true
    · rw [if_pos h]
      refine ih k (i + 1) true (by omega) (by omega) ?_
      rw [ht, List.any_append, ← hc, h, Bool.true_or]
    · rw [if_neg h, if_pos (by omega), hr, impl_covr, Option.bind_some]
      refine ih k (i + 1) _ (by omega) (by omega) ?_
      rw [ht, List.any_append, ← hc, Bool.eq_false_iff.2 h, Bool.false_or, List.any_cons, List.any_nil, Bool.or_false]
theorem FnGrants : laws_FnGrants.Pure := by
  intro l0 _ _ _
  obtain ⟨K, hK⟩ : ∃ K, K = l0.length + 5000 := ⟨_, rfl⟩
  refine ⟨K, ?_⟩
  unfold laws_FnGrants.f
  simp only [laws_big.f, Option.bind_some]
  by_cases hb : (l0.length : Int) > 1048576
  · rw [if_pos (decide_eq_true hb)]
  · rw [if_neg (by rw [decide_eq_false hb]; decide)]
    obtain ⟨⟨xs, x4, a, b, x6, x7, ck⟩, e1, hl⟩ := drawAllowed_ok K l0 (by omega) (by omega)
    rw [e1, Option.bind_some]
    dsimp only at hl ⊢
    exact grants_l0 l0 (by omega) xs hl x4 x6 x7 a b ck xs.length K 0 false (by omega) (by omega) (by simp)

end Go.Proofs.Ytacgichgadoddaa.Pure
