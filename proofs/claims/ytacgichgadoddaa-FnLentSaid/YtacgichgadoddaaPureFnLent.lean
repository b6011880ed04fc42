/- The printed function of the law FnLent answers true, for all arguments, under no condition but that each whole number is one of its kind and that each slice has a length that fits. -/
import Derived.Test.YtacgichgadoddaaQMx33
namespace Go.Proofs.Ytacgichgadoddaa.Pure
open Go.RowKit Go.Proofs.Ytacgichgadoddaa.QM Go.Proofs.YtacgichgadoddaaW.PrintWords Go.Proofs.YtacgichgadoddaaW.PrintLast
set_option linter.unusedVariables false
set_option linter.unusedSimpArgs false
theorem wr {i : Int} (h0 : -9223372036854775808 ≤ i) (h1 : i ≤ 9223372036854775807) : wrap64 i = i := by unfold wrap64; omega
theorem beq_dec (a b : Int) : (a == b) = decide (a = b) := by by_cases h : a = b <;> simp [h]
theorem and_if (p : Prop) [Decidable p] (c : Bool) : (if p then some c else some false) = some (decide p && c) := by
  by_cases h : p <;> simp [h]
theorem or_if (p : Prop) [Decidable p] (c : Bool) : (if p then some true else some c) = some (decide p || c) := by
  by_cases h : p <;> simp [h]
def inR (a b c : Int) : Bool := decide (b ≤ a) && decide (a ≤ c)
def isPat (o s : Int) : Bool := inR o 0 9 && inR s (-1) 9
def isSit (o s : Int) : Bool := inR o 1 9 && inR s 0 9
def mtch (po ps o s : Int) : Bool := isPat po ps && (isSit o s && ((decide (po = 0) || decide (po = o)) && (decide (ps = -1) || decide (ps = s))))
def narr (po ps qo qs : Int) : Bool := isPat po ps && (isPat qo qs && ((decide (qo = 0) || decide (po = qo)) && (decide (qs = -1) || decide (ps = qs))))
def isGra (e po ps k f u : Int) : Bool := inR e 1 5 && (isPat po ps && (inR k 1 4 && (decide (0 ≤ f) && (decide (f ≤ u) && decide (u ≤ 10000)))))
def isLim (e po ps k : Int) : Bool := inR e 0 5 && (isPat po ps && inR k 0 4)
def covr (e po ps k f u : Int) (cl : Bool) (ext o s kind tick : Int) (ck : Bool) : Bool :=
  isGra e po ps k f u && (decide (e = ext) && (decide (k = kind) && (mtch po ps o s && (inR tick f u && (ck || !cl)))))
def isRul (e p po ps s a o b : Int) : Bool :=
  inR e 1 5 && (inR p 1 9 && (isPat po ps && (inR s 0 4 && ((decide (a = 1) || decide (a = 2)) && (decide (o = 0) && decide (b = 0)) || decide (a = 3) && isSit o b))))
def isReq (o s t : Int) : Bool := isSit o s && inR t 1 4
def appl (e p po ps s a o b qo qs qt : Int) : Bool := isRul e p po ps s a o b && (isReq qo qs qt && (mtch po ps qo qs && (decide (s = 0) || decide (s = qt))))
def isLen (e po ps k f u : Int) (cl : Bool) : Bool := isGra e po ps k f u && (decide (po ≠ 0) && (decide (ps ≠ -1) && ((decide (k = 1) || decide (k = 2)) && (decide (u = f + 5) && !cl))))
def isLab (x : Int) : Bool := inR x 0 1022 && decide (Int.tmod x 2 = 0)
def befo (ae ap aa ao ab be bp ba bo bb : Int) : Bool :=
  if ap = bp then (if aa = ba then (if ae = be then (if ao = bo then decide (ab < bb) else decide (ao < bo)) else decide (ae < be)) else decide (aa < ba)) else decide (bp < ap)
def within (e po ps k f u : Int) (cl : Bool) (e' po' ps' k' f' u' : Int) (cl' : Bool) : Bool :=
  isGra e po ps k f u && (isGra e' po' ps' k' f' u' && (decide (e = e') && (decide (k = k') && (narr po ps po' ps' && (decide (f' ≤ f) && (decide (u ≤ u') && (cl || !cl')))))))
theorem take_set1 {α : Type} (s : List α) (i : Nat) (v : α) (h : i < s.length) : (s.set i v).take (i + 1) = s.take i ++ [v] := by
  rw [List.take_succ_eq_append_getElem (by simpa using h), List.take_set, List.set_eq_of_length_le (by simp; omega)]
  simp
theorem loop_up {σ ρ : Type} (g : Nat → σ → Int → Option ρ) (n : Nat) (out : σ → Nat → ρ) (I : σ → Nat → Prop) (hn : n ≤ 9223372036854775806)
    (hstep : ∀ (k : Nat) (s : σ) (i : Nat), i < n → I s i → (∀ s', I s' (i + 1) → g k s' (wrap64 ((i : Int) + 1)) = some (out s' (i + 1))) → g (k + 1) s (i : Int) = some (out s i))
    (hend : ∀ (k : Nat) (s : σ), I s n → g (k + 1) s (n : Int) = some (out s n)) :
    ∀ (d k : Nat) (s : σ) (i : Nat), i + d = n → d < k → I s i → g k s (i : Int) = some (out s i) := by
  intro d
  induction d with
  | zero =>
    intro k s i hi hk hI
    obtain ⟨k, rfl⟩ : ∃ m, k = m + 1 := ⟨k - 1, by omega⟩
    obtain rfl : i = n := by omega
    exact hend k s hI
  | succ d ih =>
    intro k s i hi hk hI
    obtain ⟨k, rfl⟩ : ∃ m, k = m + 1 := ⟨k - 1, by omega⟩
    refine hstep k s i (by omega) hI fun s' hI' => ?_
    have := ih k s' (i + 1) (by omega) (by omega) hI'
    rw [wr (by omega) (by omega)]
    exact_mod_cast this
theorem loop_from {σ ρ : Type} {g : Nat → σ → Int → Option ρ} {n : Nat} {out : σ → Nat → ρ} {I : σ → Nat → Prop} (h : ∀ (d k : Nat) (s : σ) (i : Nat), i + d = n → d < k → I s i → g k s (i : Int) = some (out s i))
    (k : Nat) (hk : n < k) (s : σ) (hI : I s 0) : g k s 0 = some (out s 0) := by
  have := h n k s 0 (by omega) hk hI
  exact_mod_cast this
theorem drop_at {α : Type} (xs : List α) (i : Nat) (h : i < xs.length) : xs.drop i = xs[i] :: xs.drop (i + 1) := List.drop_eq_getElem_cons h

theorem nlt {n : Nat} : ¬ (n : Int) < (n : Int) := by omega
/-- where a list is copied element by element into a made one -/
theorem rd_at {α : Type} (z : α) (xs : List α) (i : Nat) (h : i < xs.length) : xs.getD (i : Int).toNat z = xs[i] := by simp [h]

theorem loop_upm {σ ρ : Type} (m : Nat) (g : Nat → σ → Int → Option ρ) (n : Nat) (out : σ → Nat → ρ) (I : σ → Nat → Prop) (hn : n ≤ 9223372036854775806)
    (hstep : ∀ (k : Nat) (s : σ) (i : Nat), m ≤ k → i < n → I s i → (∀ s', I s' (i + 1) → g k s' (wrap64 ((i : Int) + 1)) = some (out s' (i + 1))) → g (k + 1) s (i : Int) = some (out s i))
    (hend : ∀ (k : Nat) (s : σ), m ≤ k → I s n → g (k + 1) s (n : Int) = some (out s n)) :
    ∀ (d k : Nat) (s : σ) (i : Nat), i + d = n → d + m < k → I s i → g k s (i : Int) = some (out s i) := by
  intro d
  induction d with
  | zero =>
    intro k s i hi hk hI
    obtain ⟨k, rfl⟩ : ∃ m, k = m + 1 := ⟨k - 1, by omega⟩
    obtain rfl : i = n := by omega
    exact hend k s (by omega) hI
  | succ d ih =>
    intro k s i hi hk hI
    obtain ⟨k, rfl⟩ : ∃ m, k = m + 1 := ⟨k - 1, by omega⟩
    refine hstep k s i (by omega) (by omega) hI fun s' hI' => ?_
    have := ih k s' (i + 1) (by omega) (by omega) hI'
    rw [wr (by omega) (by omega)]
    exact_mod_cast this
theorem loop_fromm {σ ρ : Type} {m : Nat} {g : Nat → σ → Int → Option ρ} {n : Nat} {out : σ → Nat → ρ} {I : σ → Nat → Prop} (h : ∀ (d k : Nat) (s : σ) (i : Nat), i + d = n → d + m < k → I s i → g k s (i : Int) = some (out s i))
    (k : Nat) (hk : n + m < k) (s : σ) (hI : I s 0) : g k s 0 = some (out s 0) := by
  have := h n k s 0 (by omega) hk hI
  exact_mod_cast this
theorem loop_run {σ ρ : Type} (m : Nat) (g : Nat → σ → Int → Option ρ) (n : Nat) (out : σ → Nat → ρ) (I : σ → Nat → Prop) (hn : n ≤ 9223372036854775806)
    (hstep : ∀ (k : Nat) (s : σ) (i : Nat), m ≤ k → i < n → I s i → (∀ s', I s' (i + 1) → g k s' (wrap64 ((i : Int) + 1)) = some (out s' (i + 1))) → g (k + 1) s (i : Int) = some (out s i))
    (hend : ∀ (k : Nat) (s : σ), m ≤ k → I s n → g (k + 1) s (n : Int) = some (out s n)) (k : Nat) (hk : n + m < k) (s : σ) (hI : I s 0) : g k s 0 = some (out s 0) :=
  loop_fromm (loop_upm m g n out I hn hstep hend) k hk s hI
theorem if_and2 {α : Type} (a : Bool) (p : Prop) [Decidable p] (x y : α) : (if a = true then (if p then x else y) else y) = if (a && decide p) = true then x else y := by
  cases a <;> by_cases h : p <;> simp [h]

theorem if_nand {α : Type} (a b : Bool) (x y : α) : (if a = true then (if b = true then y else x) else x) = if (!(a && b)) = true then x else y := by
  cases a <;> cases b <;> simp
theorem rdPattern_i (xs : List S32) (i : Nat) (h : i < xs.length) : rd_T32 xs (i : Int) = xs[i] := rd_at _ xs i h
theorem rdGrant_i (xs : List S48) (i : Nat) (h : i < xs.length) : rd_T48 xs (i : Int) = xs[i] := rd_at _ xs i h

def lendM (e o s t : Int) : List S48 := if (inR e 1 5 && (isSit o s && inR t 0 9995)) = true then [⟨e, ⟨o, s⟩, 1, t, wrap64 (t + 5), false⟩, ⟨e, ⟨o, s⟩, 2, t, wrap64 (t + 5), false⟩] else []
theorem lendM_len (e o s t : Int) : (lendM e o s t).length ≤ 2 := by unfold lendM; split <;> simp

def sgr (r y : S48) : Bool := (y.f0 == r.f0 && ((y.f1.f0 == r.f1.f0 && (y.f1.f1 == r.f1.f1)) && (y.f2 == r.f2 && (y.f3 == r.f3 && (y.f4 == r.f4 && (y.f5 == r.f5))))))
def newG (l g : List S48) : List S48 := g.filter fun r => !l.any (sgr r)
theorem newG_len (l g : List S48) : (newG l g).length ≤ g.length := List.length_filter_le _ _
theorem newG_cons (l : List S48) (r : S48) (g : List S48) : newG l (r :: g) = (if l.any (sgr r) = true then [] else [r]) ++ newG l g := by
  unfold newG
  rw [List.filter_cons]
  cases l.any (sgr r) <;> simp
def finG (l g out : List S48) : List S48 × Bool := if (g.length : Int) = 0 then (l, false) else if (out.length : Int) > 16 then (l, false) else (out, true)
def lendTo (l : List S48) (e o s t : Int) : List S48 × Bool := finG l (lendM e o s t) (l ++ newG l (lendM e o s t))
theorem lendTo_len (l : List S48) (e o s t : Int) : (lendTo l e o s t).1.length ≤ l.length + 2 := by
  have h1 := lendM_len e o s t
  have h2 := newG_len l (lendM e o s t)
  unfold lendTo finG
  split
  · dsimp only; omega
  · split
    · dsimp only; omega
    · simp only [List.length_append]; omega

theorem impl_in (a b c : Int) : impl_InRange.f a b c = some (inR a b c) := by
  unfold impl_InRange.f inR; exact and_if _ _

theorem impl_sit (a b : Int) : impl_IsSite.f a b = some (isSit a b) := by
  unfold impl_IsSite.f isSit; simp only [impl_in, Option.bind_some]; cases inR a 1 9 <;> simp


theorem cloneGrant_eq (xs : List S48) (hn : xs.length ≤ 1048576) : impl_Grant_91.f xs = some xs := by
  unfold impl_Grant_91.f
  rw [Option.bind_some, if_pos (by simp; omega), List.nil_append]


def sameGrant (a b c d e f : Int) (g : Bool) (r : S48) : Bool := (r.f0 == a && ((r.f1.f0 == b && (r.f1.f1 == c)) && (r.f2 == d && (r.f3 == e && (r.f4 == f && (r.f5 == g))))))
theorem sameGrant_c (a b c d e f : Int) (g : Bool) (r : S48) : (a == r.f0 && ((b == r.f1.f0 && (c == r.f1.f1)) && (d == r.f2 && (e == r.f3 && (f == r.f4 && (g == r.f5)))))) = sameGrant a b c d e f g r := by
  have E0 : ∀ x y : Int, (x == y) = (y == x) := fun x y => by rw [beq_dec, beq_dec]; exact decide_eq_decide.2 eq_comm
  have E1 : ∀ x y : Bool, (x == y) = (y == x) := by decide
  unfold sameGrant
  rw [E0 a, E0 b, E0 c, E0 d, E0 e, E0 f, E1 g]

theorem ixGrant_l (k : Nat) (xs : List S48) (a b c d e f : Int) (g : Bool) (hn : xs.length ≤ 1048576) (hk : xs.length < k) : impl_Grant_131.f k xs a b c d e f g = some (if xs.any (sameGrant a b c d e f g) then ((xs.findIdx (sameGrant a b c d e f g) : Nat) : Int) else -1) := by
  have L := loop_run 0 (fun k (_ : Unit) i => impl_Grant_131.l0 k xs (xs.length : Int) i a b c d e f g) xs.length (fun _ i => if (xs.drop i).any (sameGrant a b c d e f g) then ((i + (xs.drop i).findIdx (sameGrant a b c d e f g) : Nat) : Int) else -1) (fun _ _ => True) (by omega)
    (fun k u_ i hm hi hI ih => by
      have hd := drop_at xs i hi
      have hr := rdGrant_i xs i hi
      generalize xs[i] = r at hd hr
      have ih' := ih () trivial
      try dsimp only at ih'
      simp only [impl_Grant_131.l0]
      rw [if_pos (by omega), if_pos (by omega), if_pos (by omega)]
      simp only [hr]
      rw [sameGrant_c, ih', hd, List.any_cons, List.findIdx_cons]
      cases sameGrant a b c d e f g r
      · simp only [Bool.false_or, Bool.false_eq_true, if_false, cond_false]
        congr 1
        split
        · omega
        · rfl
      · simp)
    (fun k u_ hm hI => by
      simp only [impl_Grant_131.l0]
      rw [if_neg nlt, List.drop_of_length_le (Nat.le_refl _)]
      simp) k hk () trivial
  try dsimp only at L
  unfold impl_Grant_131.f
  rw [L, List.drop_zero, Nat.zero_add]


theorem hasGrant_eq (k : Nat) (xs : List S48) (a b c d e f : Int) (g : Bool) (hn : xs.length ≤ 1048576) (hk : xs.length < k) : impl_Grant_92.f k xs a b c d e f g = some (xs.any (sameGrant a b c d e f g)) := by
  unfold impl_Grant_92.f
  rw [ixGrant_l k xs a b c d e f g hn hk, Option.bind_some]
  congr 1
  split
  · next h => rw [h]; exact decide_eq_true (by omega)
  · next h => rw [Bool.eq_false_iff.2 h]; rfl


theorem impl_pat (a b : Int) : impl_IsPattern.f a b = some (isPat a b) := by
  unfold impl_IsPattern.f isPat; simp only [impl_in, Option.bind_some]; cases inR a 0 9 <;> simp


theorem impl_gra (e po ps k f u : Int) (c : Bool) : impl_IsGrant.f e po ps k f u c = some (isGra e po ps k f u) := by
  unfold impl_IsGrant.f isGra; simp only [impl_in, impl_pat, Option.bind_some]
  cases inR e 1 5 <;> cases isPat po ps <;> cases inR k 1 4 <;> simp
  by_cases h1 : 0 ≤ f <;> by_cases h2 : f ≤ u <;> simp [h1, h2]


theorem bind_ok {α β : Type} {o : Option α} {f : α → Option β} {Q : α → Prop} {R : β → Prop} (h : ∃ r, o = some r ∧ Q r) (hf : ∀ r, Q r → ∃ y, f r = some y ∧ R y) : ∃ y, o.bind f = some y ∧ R y := by
  obtain ⟨r, rfl, q⟩ := h; exact hf r q
theorem if_ok {β : Type} {p : Prop} [Decidable p] {a b : Option β} {R : β → Prop} (h : p → ∃ y, a = some y ∧ R y) (h' : ¬ p → ∃ y, b = some y ∧ R y) : ∃ y, (if p then a else b) = some y ∧ R y := by
  by_cases c : p
  · rw [if_pos c]; exact h c
  · rw [if_neg c]; exact h' c
theorem and255 (a : Int) : 0 ≤ Go.bits .and .i64 a 255 ∧ Go.bits .and .i64 a 255 ≤ 255 := by
  have h : ((BitVec.ofInt (IntKind.bits .i64) a) &&& (BitVec.ofInt (IntKind.bits .i64) 255)).toNat ≤ 255 := by
    rw [BitVec.toNat_and]; exact Nat.le_trans Nat.and_le_right (by decide)
  show 0 ≤ IntKind.wrap .i64 _ ∧ IntKind.wrap .i64 _ ≤ 255
  generalize ((BitVec.ofInt (IntKind.bits .i64) a) &&& (BitVec.ofInt (IntKind.bits .i64) 255)).toNat = n at h
  have e : IntKind.wrap .i64 (n : Int) = (n : Int) := by rw [i64_w]; exact wr (i := (n : Int)) (by omega) (by omega)
  rw [e]; omega

theorem new_ok (s : List Int) (hs : s.length ≤ 1048576) : ∀ (d k : Nat) (y : Int) (i : Nat), i + d = s.length → d < k → ∃ r, spec_l1New.l0 k s y (i : Int) = some r ∧ r.1 = s ∧ r.2.1 = 0 := by
  intro d
  induction d with
  | zero =>
    intro k y i hi hk
    obtain ⟨k, rfl⟩ : ∃ m, k = m + 1 := ⟨k - 1, by omega⟩
    simp only [spec_l1New.l0]
    rw [if_neg (by omega)]
    exact ⟨_, rfl, rfl, rfl⟩
  | succ d ih =>
    intro k y i hi hk
    obtain ⟨k, rfl⟩ : ∃ m, k = m + 1 := ⟨k - 1, by omega⟩
    simp only [spec_l1New.l0]
    rw [if_pos (by omega)]
    refine if_ok (fun _ => ?_) (fun _ => ⟨_, rfl, rfl, rfl⟩)
    rw [if_pos (by omega), wr (i := (i : Int) + 1) (by omega) (by omega)]
    exact ih k _ (i + 1) (by omega) (by omega)
theorem l1New_ok (k : Nat) (s : List Int) (hs : s.length ≤ 1048576) (hk : s.length < k) : ∃ r, spec_l1New.f k s = some r ∧ r.1 = s ∧ r.2.1 = 0 := by
  unfold spec_l1New.f
  exact new_ok s hs s.length k _ 0 (by omega) hk


theorem byte_ok (s : List Int) (p x : Int) (hs : s.length ≤ 1048576) (hp : 0 ≤ p) : ∃ r, spec_l1Byte.f s p x = some r ∧ (0 ≤ r.1 ∧ r.1 ≤ 255) ∧ 0 ≤ r.2.1 := by
  unfold spec_l1Byte.f
  refine if_ok (fun h => ?_) (fun _ => ⟨_, rfl, and255 _, hp⟩)
  rw [if_pos hp, wr (i := p + 1) (by omega) (by omega)]
  exact ⟨_, rfl, and255 _, by show (0 : Int) ≤ p + 1; omega⟩


theorem below_ok (s : List Int) (p x n : Int) (hs : s.length ≤ 1048576) (hp : 0 ≤ p) (h0 : 0 < n) (h1 : n ≤ 256) : ∃ r, spec_l1Below.f s p x n = some r ∧ (0 ≤ r.1 ∧ r.1 < n) ∧ 0 ≤ r.2.1 := by
  unfold spec_l1Below.f
  rw [if_neg (by omega), if_pos h1]
  refine bind_ok (byte_ok s p x hs hp) fun r hr => ?_
  rw [if_neg (by omega)]
  exact ⟨_, rfl, ⟨Int.tmod_nonneg _ hr.1.1, Int.tmod_lt_of_pos _ h0⟩, hr.2⟩


theorem once_ok (s : List Int) (p x n : Int) (hs : s.length ≤ 1048576) (hp : 0 ≤ p) (h0 : 0 < n) (h1 : n ≤ 256) : ∃ r, spec_l1Once.f s p x n = some r ∧ 0 ≤ r.2.1 := by
  unfold spec_l1Once.f
  exact bind_ok (below_ok s p x n hs hp h0 h1) fun r hr => ⟨_, rfl, hr.2⟩

theorem spec_in (a b c : Int) : spec_l1In.f a b c = some (inR a b c) := by
  unfold spec_l1In.f inR; exact and_if _ _

theorem spec_sit (a b : Int) : spec_IsSite.f a b = some (isSit a b) := by
  unfold spec_IsSite.f isSit; simp only [spec_in, Option.bind_some]; cases inR a 1 9 <;> simp


theorem pattern_ok (s : List Int) (p x : Int) (hs : s.length ≤ 1048576) (hp : 0 ≤ p) : ∃ r, spec_l9Pattern.f s p x = some r ∧ 0 ≤ r.2.2.1 := by
  unfold spec_l9Pattern.f
  exact bind_ok (below_ok s p x _ hs hp (by omega) (by omega)) fun r hr => bind_ok (below_ok s _ _ _ hs hr.2 (by omega) (by omega)) fun r hr => ⟨_, rfl, hr.2⟩


theorem l10_ok (s : List Int) (p x : Int) (hs : s.length ≤ 1048576) (hp : 0 ≤ p) : ∃ r, spec_l10Draw.f s p x = some r ∧ 0 ≤ r.2.2.2.2.2.2.2.1 := by
  unfold spec_l10Draw.f
  exact bind_ok (below_ok s p x _ hs hp (by omega) (by omega)) fun r1 h1 => bind_ok (below_ok s _ _ _ hs h1.2 (by omega) (by omega)) fun r2 h2 => bind_ok (pattern_ok s _ _ hs h2.2) fun r3 h3 =>
    bind_ok (below_ok s _ _ _ hs h3 (by omega) (by omega)) fun r4 h4 => bind_ok (below_ok s _ _ _ hs h4.2 (by omega) (by omega)) fun r5 h5 => bind_ok (once_ok s _ _ _ hs h5.2 (by omega) (by omega)) fun r6 h6 => ⟨_, rfl, h6⟩


theorem l10_l0 (s : List Int) (hs : s.length ≤ 1048576) : ∀ (d k : Nat) (xs : List S48) (p x : Int), d < k → xs.length + d ≤ 1000 → 0 ≤ p → ∃ r, spec_l10List.l0 k xs (d : Int) s p x = some r ∧ r.1.length ≤ xs.length + d ∧ 0 ≤ r.2.1 := by
  intro d
  induction d with
  | zero =>
    intro k xs p x hk hl hp
    obtain ⟨k, rfl⟩ : ∃ m, k = m + 1 := ⟨k - 1, by omega⟩
    simp only [spec_l10List.l0]
    rw [if_neg (by omega)]
    exact ⟨_, rfl, Nat.le_refl _, hp⟩
  | succ d ih =>
    intro k xs p x hk hl hp
    obtain ⟨k, rfl⟩ : ∃ m, k = m + 1 := ⟨k - 1, by omega⟩
    simp only [spec_l10List.l0]
    rw [if_pos (by omega)]
    refine bind_ok (l10_ok s p x hs hp) fun r hr => ?_
    rw [if_pos (by omega), wr (by omega) (by omega), show (((d + 1 : Nat) : Int) - 1) = (d : Int) by omega]
    obtain ⟨r2, e, h1, h2⟩ := ih k (xs ++ [⟨r.1, ⟨r.2.1, r.2.2.1⟩, r.2.2.2.1, r.2.2.2.2.1, r.2.2.2.2.2.1, r.2.2.2.2.2.2.1⟩]) r.2.2.2.2.2.2.2.1 r.2.2.2.2.2.2.2.2 (by omega) (by simp; omega) hr
    simp only [List.length_append, List.length_singleton] at h1
    exact ⟨r2, e, by omega, h2⟩
theorem l10list_ok (k : Nat) (s : List Int) (p x : Int) (hs : s.length ≤ 1048576) (hk : 20 < k) (hp : 0 ≤ p) : ∃ r, spec_l10List.f k s p x = some r ∧ r.1.length ≤ 20 ∧ 0 ≤ r.2.1 := by
  unfold spec_l10List.f
  refine bind_ok (below_ok s p x 7 hs hp (by omega) (by omega)) fun r hr => ?_
  obtain ⟨r2, e, h1, h2⟩ := l10_l0 s hs r.1.toNat k [] r.2.1 r.2.2 (by omega) (by simp; omega) hr.2
  rw [show ((r.1.toNat : Nat) : Int) = r.1 by omega] at e
  exact ⟨r2, e, by simp at h1; omega, h2⟩


theorem site_ok (s : List Int) (p x : Int) (hs : s.length ≤ 1048576) (hp : 0 ≤ p) : ∃ r, spec_l9Site.f s p x = some r ∧ 0 ≤ r.2.2.1 := by
  unfold spec_l9Site.f
  exact bind_ok (below_ok s p x _ hs hp (by omega) (by omega)) fun r hr => bind_ok (below_ok s _ _ _ hs hr.2 (by omega) (by omega)) fun r hr => ⟨_, rfl, hr.2⟩


theorem int_ok (s : List Int) (p x : Int) (l : List Int) (hs : s.length ≤ 1048576) (hp : 0 ≤ p) (h0 : 0 < l.length) (h1 : l.length ≤ 256) : ∃ r, spec_l1Int.f s p x l = some r ∧ 0 ≤ r.2.1 := by
  unfold spec_l1Int.f
  refine bind_ok (below_ok s p x _ hs hp (by omega) (by omega)) fun r hr => ?_
  rw [if_pos hr.1.1, if_pos hr.1.2]
  exact ⟨_, rfl, hr.2⟩


theorem impl_mtch (a b c d : Int) : impl_MatchSite.f a b c d = some (mtch a b c d) := by
  unfold impl_MatchSite.f mtch; simp only [impl_pat, impl_sit, Option.bind_some]
  cases isPat a b <;> cases isSit c d <;> simp
  by_cases h1 : a = 0 <;> by_cases h2 : a = c <;> by_cases h3 : b = -1 <;> simp [h1, h2, h3] <;> simp [beq_dec]


theorem impl_covr (e po ps k f u : Int) (cl : Bool) (ext o s kind tick : Int) (ck : Bool) : impl_Covers.f e po ps k f u cl ext o s kind tick ck = some (covr e po ps k f u cl ext o s kind tick ck) := by
  unfold impl_Covers.f covr; simp only [impl_gra, impl_mtch, impl_in, Option.bind_some]
  cases isGra e po ps k f u <;> cases mtch po ps o s <;> cases inR tick f u <;> cases ck <;> by_cases h1 : e = ext <;> by_cases h2 : k = kind <;> simp [h1, h2]


theorem impl_IsAllowed_eq (k : Nat) (xs : List S48) (e o s kd t : Int) (ck : Bool) (hn : xs.length ≤ 1048576) (hk : xs.length + 0 < k) : impl_IsAllowed.f k xs e o s kd t ck = some (xs.any fun r => covr r.f0 r.f1.f0 r.f1.f1 r.f2 r.f3 r.f4 r.f5 e o s kd t ck) := by
  have L := loop_run (0) (fun k (_ : Unit) i => impl_IsAllowed.l0 k e kd t ck xs (xs.length : Int) i o s) xs.length (fun _ i => (xs.drop i).any fun r => covr r.f0 r.f1.f0 r.f1.f1 r.f2 r.f3 r.f4 r.f5 e o s kd t ck) (fun _ _ => True) (by omega)
    (fun k u_ i hm hi hI ih => by
      have hd := drop_at xs i hi
      have hr := rdGrant_i xs i hi
      generalize xs[i] = r at hd hr
      have ih' := ih () trivial
      try dsimp only at ih'
      simp only [impl_IsAllowed.l0]
      rw [if_pos (by omega), if_pos (by omega), if_pos (by omega)]
      simp only [hr, impl_covr, Option.bind_some]
      rw [hd, List.any_cons, ih']
      cases covr r.f0 r.f1.f0 r.f1.f1 r.f2 r.f3 r.f4 r.f5 e o s kd t ck <;> simp)
    (fun k u_ hm hI => by
      simp only [impl_IsAllowed.l0]
      rw [if_neg nlt, List.drop_of_length_le (Nat.le_refl _)]
      rfl) k hk () trivial
  try dsimp only at L
  unfold impl_IsAllowed.f
  rw [L]
  rfl


theorem spec_lend (k : Nat) (e o s t : Int) (hk : 10 < k) : spec_LendGrants.f k e o s t = some (lendM e o s t) := by
  obtain ⟨k, rfl⟩ : ∃ m, k = m + 5 := ⟨k - 5, by omega⟩
  unfold spec_LendGrants.f lendM
  simp only [spec_in, spec_sit, Option.bind_some]
  have w1 : wrap64 2 = 2 := wr (by omega) (by omega)
  have w2 : wrap64 3 = 3 := wr (by omega) (by omega)
  cases inR e 1 5 <;> cases isSit o s <;> cases inR t 0 9995 <;> simp [spec_LendGrants.j0, spec_LendGrants.l0, w1, w2]


theorem spec_lt1 (l G out : List S48) (R : List S48 × Bool) (hn : l.length ≤ 1048576) (ho : out.length ≤ 1048578) (j : Nat) (hj : j < G.length) (hG : G.length ≤ 2) (k0 : Nat)
    (next : ∀ k, k0 ≤ k → spec_LendTo.l0 k l G (if l.any (sgr G[j]) = true then out else out ++ [G[j]]) ((j + 1 : Nat) : Int) = some R) :
    ∀ (d k i : Nat) (c : Bool), i + d = l.length → k0 + d < k → c = (l.take i).any (sgr G[j]) → spec_LendTo.l1 k l G out (j : Int) c (i : Int) = some R := by
  have hr := rdGrant_i G j hj
  intro d
  induction d with
  | zero =>
    intro k i c hi hk hc
    obtain ⟨k, rfl⟩ : ∃ m, k = m + 1 := ⟨k - 1, by omega⟩
    rw [List.take_of_length_le (by omega)] at hc
    have nx := next k (by omega)
    rw [← hc] at nx
    simp only [spec_LendTo.l1]
    rw [if_neg (by omega), wr (i := (j : Int) + 1) (by omega) (by omega), show (j : Int) + 1 = ((j + 1 : Nat) : Int) by omega]
    cases c
    · rw [if_neg (by decide), if_pos (by omega), if_pos (by omega), if_pos (by omega), hr]
      rw [if_neg (by decide)] at nx
      exact nx
    · rw [if_pos rfl]
      rw [if_pos rfl] at nx
      exact nx
  | succ d ih =>
    intro k i c hi hk hc
    obtain ⟨k, rfl⟩ : ∃ m, k = m + 1 := ⟨k - 1, by omega⟩
    have ht : l.take (i + 1) = l.take i ++ [l[i]'(by omega)] := List.take_succ_eq_append_getElem (by omega)
    have hl := rdGrant_i l i (by omega)
    simp only [spec_LendTo.l1]
    rw [if_pos (by omega), wr (i := (i : Int) + 1) (by omega) (by omega), show (i : Int) + 1 = ((i + 1 : Nat) : Int) by omega]
    cases c
    · rw [if_neg (by decide), if_pos (by omega), if_pos (by omega), if_pos (by omega), hl, hr]
      refine ih k (i + 1) _ (by omega) (by omega) ?_
      rw [ht, List.any_append, ← hc, Bool.false_or, List.any_cons, List.any_nil, Bool.or_false]
      rfl
    · rw [if_pos rfl]
      refine ih k (i + 1) true (by omega) (by omega) ?_
      rw [ht, List.any_append, ← hc, Bool.true_or]
theorem spec_lt0 (l G : List S48) (hn : l.length ≤ 1048576) (hG : G.length ≤ 2) : ∀ (n k j : Nat) (out : List S48), j + n = G.length → (l.length + 5) * n + 5 < k → out.length ≤ l.length + j → spec_LendTo.l0 k l G out (j : Int) = some (finG l G (out ++ newG l (G.drop j))) := by
  intro n
  induction n with
  | zero =>
    intro k j out hj hk ho
    obtain ⟨k, rfl⟩ : ∃ m, k = m + 1 := ⟨k - 1, by omega⟩
    simp only [spec_LendTo.l0]
    rw [if_neg (by omega), List.drop_of_length_le (by omega)]
    simp only [newG, List.filter_nil, List.append_nil, finG, Option.bind_some, List.nil_append, List.length_nil]
    by_cases h : (G.length : Int) = 0
    · rw [if_pos h, if_pos h, if_pos (by omega)]
    · rw [if_neg h, if_neg h]
      by_cases h2 : (out.length : Int) > 16
      · rw [if_pos h2, if_pos h2, if_pos (by omega)]
      · rw [if_neg h2, if_neg h2]
  | succ n ih =>
    intro k j out hj hk ho
    obtain ⟨k, rfl⟩ : ∃ m, k = m + 1 := ⟨k - 1, by omega⟩
    rw [Nat.mul_succ] at hk
    simp only [spec_LendTo.l0]
    rw [if_pos (by omega)]
    have hd := drop_at G j (by omega)
    refine spec_lt1 l G out _ hn (by omega) j (by omega) hG ((l.length + 5) * n + 6) (fun k' hk' => ?_) l.length k 0 false (by omega) (by omega) (by simp)
    rw [hd, newG_cons, ← List.append_assoc]
    have := ih k' (j + 1) (if l.any (sgr G[j]) = true then out else out ++ [G[j]]) (by omega) (by omega) (by
      split
      · omega
      · simp only [List.length_append, List.length_singleton]; omega)
    rw [this]
    congr 2
    cases l.any (sgr G[j]) <;> simp
theorem spec_LendTo_eq (k : Nat) (l : List S48) (e o s t : Int) (hn : l.length ≤ 1048576) (hk : l.length + l.length + 40 < k) : spec_LendTo.f k l e o s t = some (lendTo l e o s t) := by
  unfold spec_LendTo.f lendTo
  rw [spec_lend k _ _ _ _ (by omega), Option.bind_some, Option.bind_some, if_pos (by simp; omega), List.nil_append]
  have hG := lendM_len e o s t
  have := spec_lt0 l (lendM e o s t) hn hG (lendM e o s t).length k 0 l (by omega) (by
    generalize (lendM e o s t).length = n at hG
    have : (l.length + 5) * n ≤ (l.length + 5) * 2 := Nat.mul_le_mul_left _ hG
    omega) (by omega)
  rw [show ((0 : Nat) : Int) = 0 from rfl, List.drop_zero] at this
  exact this


theorem drawEnd_ok (k : Nat) (s : List Int) (hs : s.length ≤ 1048576) (hk : s.length + 200 < k) : ∃ r, spec_DrawEndLending.f k s = some r ∧ r.1.length ≤ 24 := by
  unfold spec_DrawEndLending.f
  refine bind_ok (l1New_ok k s hs (by omega)) fun r hr => ?_
  obtain ⟨e1, e2⟩ := hr
  rw [e1]
  refine bind_ok (l10list_ok k s _ _ hs (by omega) (by omega)) fun r2 h2 => bind_ok (below_ok s _ _ _ hs h2.2 (by omega) (by omega)) fun r3 h3 => bind_ok (site_ok s _ _ hs h3.2) fun r4 h4 => bind_ok (below_ok s _ _ _ hs h4 (by omega) (by omega)) fun r5 h5 => ?_
  have a1 := lendTo_len r2.1 (wrap64 (1 + r3.1)) r4.1 r4.2.1 r5.1
  rw [spec_LendTo_eq k _ _ _ _ _ (by omega) (by omega), Option.bind_some]
  refine bind_ok (below_ok s _ _ _ hs h5.2 (by omega) (by omega)) fun r6 h6 => bind_ok (site_ok s _ _ hs h6.2) fun r7 h7 => bind_ok (below_ok s _ _ _ hs h7 (by omega) (by omega)) fun r8 h8 => ?_
  have a2 := lendTo_len (lendTo r2.1 (wrap64 (1 + r3.1)) r4.1 r4.2.1 r5.1).1 (wrap64 (1 + r6.1)) r7.1 r7.2.1 r8.1
  rw [spec_LendTo_eq k _ _ _ _ _ (by omega) (by omega), Option.bind_some]
  exact bind_ok (site_ok s _ _ hs h8.2) fun r9 h9 => ⟨_, rfl, by show (lendTo _ _ _ _ _).1.length ≤ 24; omega⟩


theorem drawLendG_ok (k : Nat) (s : List Int) (hs : s.length ≤ 1048576) (hk : s.length + 200 < k) : ∃ r, spec_DrawLendGrants.f k s = some r ∧ True := by
  unfold spec_DrawLendGrants.f
  refine bind_ok (l1New_ok k s hs (by omega)) fun r hr => ?_
  obtain ⟨e1, e2⟩ := hr
  rw [e1]
  exact bind_ok (site_ok s _ _ hs (by omega)) fun r2 h2 => bind_ok (int_ok s _ _ _ hs h2 (by decide) (by decide)) fun r3 h3 => bind_ok (once_ok s _ _ _ hs h3 (by omega) (by omega)) fun r4 h4 =>
    if_ok (fun _ => bind_ok (int_ok s _ _ _ hs h4 (by decide) (by decide)) fun r5 h5 => ⟨_, rfl, trivial⟩) (fun _ => bind_ok (int_ok s _ _ _ hs h4 (by decide) (by decide)) fun r5 h5 => ⟨_, rfl, trivial⟩)


theorem dlt_l0 (a b c d : Int) : ∀ (n k : Nat) (xs : List S48), 15 ≤ xs.length + n → xs.length ≤ 24 → n < k → ∃ r, spec_DrawLendTo.l0 k xs a b c d = some r ∧ r.1.length ≤ 24 := by
  intro n
  induction n with
  | zero =>
    intro k xs h1 h2 hk
    obtain ⟨k, rfl⟩ : ∃ m, k = m + 1 := ⟨k - 1, by omega⟩
    simp only [spec_DrawLendTo.l0]
    rw [if_neg (by omega)]
    exact ⟨_, rfl, h2⟩
  | succ n ih =>
    intro k xs h1 h2 hk
    obtain ⟨k, rfl⟩ : ∃ m, k = m + 1 := ⟨k - 1, by omega⟩
    simp only [spec_DrawLendTo.l0]
    refine if_ok (fun h => ?_) (fun _ => ⟨_, rfl, h2⟩)
    rw [if_pos (by omega)]
    exact ih k _ (by simp; omega) (by simp; omega) (by omega)
theorem drawLend_ok (k : Nat) (s : List Int) (hs : s.length ≤ 1048576) (hk : s.length + 200 < k) : ∃ r, spec_DrawLendTo.f k s = some r ∧ r.1.length ≤ 24 := by
  unfold spec_DrawLendTo.f
  refine bind_ok (l1New_ok k s hs (by omega)) fun r hr => ?_
  obtain ⟨e1, e2⟩ := hr
  rw [e1]
  exact bind_ok (drawEnd_ok k s hs (by omega)) fun r2 h2 => bind_ok (drawLendG_ok k s hs (by omega)) fun r3 h3 => bind_ok (once_ok s _ _ _ hs (by omega) (by omega) (by omega)) fun r4 h4 =>
    if_ok (fun _ => dlt_l0 _ _ _ _ 15 k _ (by omega) h2 (by omega)) (fun _ => ⟨_, rfl, h2⟩)


theorem impl_len (e po ps k f u : Int) (cl : Bool) : impl_IsLent.f e po ps k f u cl = some (isLen e po ps k f u cl) := by
  unfold impl_IsLent.f isLen
  simp only [impl_gra, Option.bind_some]
  cases hg : isGra e po ps k f u with
  | false => simp
  | true =>
    have hb : 0 ≤ f ∧ f ≤ 10000 := by
      simp [isGra] at hg; omega
    have hw : wrap64 (f + 5) = f + 5 := by unfold wrap64; omega
    rw [hw]
    simp
    by_cases h1 : po = 0 <;> by_cases h2 : ps = -1 <;> by_cases h3 : k = 1 <;> by_cases h4 : k = 2 <;> by_cases h5 : u = f + 5 <;> simp_all [impl_IsLent.f] <;> (intros; omega)


theorem impl_EndLending_eq (k : Nat) (xs : List S48) (x : Int) (y : Int) (hn : xs.length ≤ 1048576) (hk : xs.length < k) : impl_EndLending.f k xs x y = some (xs.filter fun r => !(isLen r.f0 r.f1.f0 r.f1.f1 r.f2 r.f3 r.f4 r.f5 && mtch r.f1.f0 r.f1.f1 x y)) := by
  have L := loop_run 0 (fun k (s : List S48) i => impl_EndLending.l0 k s xs (xs.length : Int) i x y) xs.length (fun s i => s ++ (xs.drop i).filter fun r => !(isLen r.f0 r.f1.f0 r.f1.f1 r.f2 r.f3 r.f4 r.f5 && mtch r.f1.f0 r.f1.f1 x y)) (fun s i => s.length ≤ i) (by omega)
    (fun k s i hm hi hI ih => by
      have hd := drop_at xs i hi
      have hr := rdGrant_i xs i hi
      generalize xs[i] = r at hd hr
      simp only [impl_EndLending.l0]
      rw [if_pos (by omega), if_pos (by omega), if_pos (by omega)]
      simp only [hr, impl_len, impl_mtch, Option.bind_some, if_nand]
      rw [hd]
      by_cases hp : (!(isLen r.f0 r.f1.f0 r.f1.f1 r.f2 r.f3 r.f4 r.f5 && mtch r.f1.f0 r.f1.f1 x y)) = true
      · have hp' := hp
        rw [if_pos hp]
        rw [if_pos (by omega), ih _ (by simp; omega)]
        simp only [List.filter_cons, hp', ↓reduceIte, List.append_assoc]
        rfl
      · have hp' := hp
        rw [if_neg hp]
        rw [ih _ (by omega)]
        simp only [List.filter_cons, hp', ↓reduceIte, Bool.false_eq_true])
    (fun k s hm hI => by
      simp only [impl_EndLending.l0]
      rw [if_neg nlt, List.drop_of_length_le (Nat.le_refl _)]
      simp) k hk [] (by simp)
  try dsimp only at L
  unfold impl_EndLending.f
  rw [L]
  simp


theorem impl_lend (e o s t : Int) : impl_LendGrants.f e o s t = some (lendM e o s t) := by
  unfold impl_LendGrants.f lendM
  simp only [impl_in, impl_sit, Option.bind_some]
  cases inR e 1 5 <;> cases isSit o s <;> cases inR t 0 9995 <;> rfl


theorem impl_lt0 (l G : List S48) (hn : l.length ≤ 1048576) (hG : G.length ≤ 2) : ∀ (n k j : Nat) (out : List S48), j + n = G.length → n + l.length + 5 < k → out.length ≤ l.length + j → impl_LendTo.l0 k l G out G (G.length : Int) (j : Int) = some (finG l G (out ++ newG l (G.drop j))) := by
  intro n
  induction n with
  | zero =>
    intro k j out hj hk ho
    obtain ⟨k, rfl⟩ : ∃ m, k = m + 1 := ⟨k - 1, by omega⟩
    simp only [impl_LendTo.l0]
    rw [if_neg (by omega), List.drop_of_length_le (by omega), cloneGrant_eq l hn]
    simp only [newG, List.filter_nil, List.append_nil, finG, Option.bind_some]
    by_cases h : (G.length : Int) = 0
    · rw [if_pos h, if_pos h]
    · rw [if_neg h, if_neg h]
      by_cases h2 : (out.length : Int) > 16
      · rw [if_pos h2, if_pos h2]
      · rw [if_neg h2, if_neg h2]
  | succ n ih =>
    intro k j out hj hk ho
    obtain ⟨k, rfl⟩ : ∃ m, k = m + 1 := ⟨k - 1, by omega⟩
    simp only [impl_LendTo.l0]
    have hd := drop_at G j (by omega)
    have hr := rdGrant_i G j (by omega)
    rw [if_pos (by omega), if_pos (by omega), if_pos (by omega), hr, hasGrant_eq k l _ _ _ _ _ _ _ hn (by omega), Option.bind_some, wr (i := (j : Int) + 1) (by omega) (by omega), show (j : Int) + 1 = ((j + 1 : Nat) : Int) by omega, hd, newG_cons, ← List.append_assoc]
    generalize G[j] = r at hd hr
    show (if l.any (sgr r) = true then _ else _) = _
    cases l.any (sgr r)
    · rw [if_neg (by decide), if_pos (by omega), if_neg (by decide)]
      exact ih k (j + 1) (out ++ [r]) (by omega) (by omega) (by simp; omega)
    · rw [if_pos rfl, if_pos rfl, List.append_nil]
      exact ih k (j + 1) out (by omega) (by omega) (by omega)
theorem impl_LendTo_eq (k : Nat) (l : List S48) (e o s t : Int) (hn : l.length ≤ 1048576) (hk : l.length + 40 < k) : impl_LendTo.f k l e o s t = some (lendTo l e o s t) := by
  unfold impl_LendTo.f lendTo
  have hG := lendM_len e o s t
  rw [impl_lend, Option.bind_some, cloneGrant_eq l hn, Option.bind_some]
  have := impl_lt0 l (lendM e o s t) hn hG (lendM e o s t).length k 0 l (by omega) (by omega) (by omega)
  rw [show ((0 : Nat) : Int) = 0 from rfl, List.drop_zero] at this
  exact this


theorem sgr_eq (r y : S48) (h : sgr r y = true) : y = r := by
  obtain ⟨a, ⟨b, c⟩, d, e, f, g⟩ := r
  obtain ⟨a', ⟨b', c'⟩, d', e', f', g'⟩ := y
  unfold sgr at h
  simp only [Bool.and_eq_true, beq_iff_eq] at h
  obtain ⟨rfl, ⟨rfl, rfl⟩, rfl, rfl, rfl, rfl⟩ := h
  rfl
theorem mem_newG (l g : List S48) (r : S48) (h : r ∈ g) : r ∈ l ++ newG l g := by
  rw [List.mem_append]
  cases hs : l.any (sgr r)
  · right
    unfold newG
    rw [List.mem_filter]
    exact ⟨h, by rw [hs]; rfl⟩
  · left
    rw [List.any_eq_true] at hs
    obtain ⟨y, hy, he⟩ := hs
    rw [← sgr_eq r y he]; exact hy
theorem lent_l1 (xs : List S48) (hx : xs.length ≤ 16) (e o s t : Int) (he : inR e 1 5 = true) (hs : isSit o s = true) (ht : inR t 0 9995 = true) : ∀ (d k i : Nat), i + d = 2 → d < k →
    laws_FnLent.l1 k e t xs [⟨e, ⟨o, s⟩, 1, t, t + 5, false⟩, ⟨e, ⟨o, s⟩, 2, t, t + 5, false⟩] (i : Int) o s = some true := by
  have hs' := hs
  have ht' := ht
  unfold isSit inR at hs'
  unfold inR at ht'
  simp only [Bool.and_eq_true, decide_eq_true_eq] at hs' ht'
  have key : ∀ q : Int, q = 1 ∨ q = 2 → isLen e o s q t (t + 5) false = true ∧ covr e o s q t (t + 5) false e o s q (t + 5 + 1) true = false ∧ covr e o s q t (t + 5) false e o (Int.tmod (s + 1) 10) q t true = false := by
    intro q hq
    refine ⟨?_, ?_, ?_⟩
    · unfold isLen isGra isPat inR
      unfold inR at he
      simp only [Bool.and_eq_true, Bool.or_eq_true, decide_eq_true_eq, Bool.not_false, and_true] at he ⊢
      omega
    · unfold covr inR
      rw [Bool.eq_false_iff]
      intro h
      simp only [Bool.and_eq_true, decide_eq_true_eq] at h
      omega
    · have hm : Int.tmod (s + 1) 10 ≠ s := by
        rw [Int.tmod_eq_emod_of_nonneg (by omega)]; omega
      unfold covr mtch
      rw [Bool.eq_false_iff]
      intro h
      simp only [Bool.and_eq_true, Bool.or_eq_true, decide_eq_true_eq] at h
      omega
  intro d
  induction d with
  | zero =>
    intro k i hi hk
    obtain ⟨k, rfl⟩ : ∃ m, k = m + 1 := ⟨k - 1, by omega⟩
    simp only [laws_FnLent.l1]
    rw [if_neg (by simp; omega), if_pos (by simp), decide_eq_true (by omega)]
  | succ d ih =>
    intro k i hi hk
    obtain ⟨k, rfl⟩ : ∃ m, k = m + 1 := ⟨k - 1, by omega⟩
    simp only [laws_FnLent.l1]
    have hw : wrap64 (wrap64 (t + 5) + 1) = t + 5 + 1 := by rw [wr (i := t + 5) (by omega) (by omega), wr (by omega) (by omega)]
    have hw2 : wrap64 (s + 1) = s + 1 := wr (by omega) (by omega)
    have hi2 : i = 0 ∨ i = 1 := by omega
    rw [if_pos (by simp; omega), if_pos (by omega), wr (i := (i : Int) + 1) (by omega) (by omega), show (i : Int) + 1 = ((i + 1 : Nat) : Int) by omega, ih k (i + 1) (by omega) (by omega), hw, hw2]
    rcases hi2 with rfl | rfl
    · have hr := rdGrant_i [(⟨e, ⟨o, s⟩, 1, t, t + 5, false⟩ : S48), ⟨e, ⟨o, s⟩, 2, t, t + 5, false⟩] 0 (by simp)
      rw [hr]
      obtain ⟨k1, k2, k3⟩ := key 1 (Or.inl rfl)
      simp only [List.getElem_cons_zero, impl_len, impl_covr, Option.bind_some, k1, k2, k3, if_true, Bool.false_eq_true, if_false]
    · have hr := rdGrant_i [(⟨e, ⟨o, s⟩, 1, t, t + 5, false⟩ : S48), ⟨e, ⟨o, s⟩, 2, t, t + 5, false⟩] 1 (by simp)
      rw [hr]
      obtain ⟨k1, k2, k3⟩ := key 2 (Or.inr rfl)
      simp only [List.getElem_cons_succ, List.getElem_cons_zero, impl_len, impl_covr, Option.bind_some, k1, k2, k3, if_true, Bool.false_eq_true, if_false]
theorem lent_l0 (xs ys : List S48) (hx : xs.length ≤ 16) (hy : ys.length ≤ 16) (e o s t : Int) (he : inR e 1 5 = true) (hs : isSit o s = true) (ht : inR t 0 9995 = true) (hall : ∀ r ∈ ys, (isLen r.f0 r.f1.f0 r.f1.f1 r.f2 r.f3 r.f4 r.f5 && mtch r.f1.f0 r.f1.f1 o s) = false) : ∀ (d k i : Nat), i + d = ys.length → d + 10 < k →
    laws_FnLent.l0 k e t xs ys (i : Int) o s = some true := by
  have ht' := ht
  unfold inR at ht'
  simp only [Bool.and_eq_true, decide_eq_true_eq] at ht'
  intro d
  induction d with
  | zero =>
    intro k i hi hk
    obtain ⟨k, rfl⟩ : ∃ m, k = m + 1 := ⟨k - 1, by omega⟩
    simp only [laws_FnLent.l0]
    have hG : lendM e o s t = [⟨e, ⟨o, s⟩, 1, t, t + 5, false⟩, ⟨e, ⟨o, s⟩, 2, t, t + 5, false⟩] := by
      unfold lendM; rw [if_pos (by rw [he, hs, ht]; rfl), wr (i := t + 5) (by omega) (by omega)]
    rw [if_neg (by omega), impl_lend, Option.bind_some, hG]
    exact lent_l1 xs hx e o s t he hs ht 2 k 0 (by omega) (by omega)
  | succ d ih =>
    intro k i hi hk
    obtain ⟨k, rfl⟩ : ∃ m, k = m + 1 := ⟨k - 1, by omega⟩
    simp only [laws_FnLent.l0]
    have hr := rdGrant_i ys i (by omega)
    have ha := hall ys[i] (List.getElem_mem _)
    rw [if_pos (by omega), if_pos (by omega), wr (i := (i : Int) + 1) (by omega) (by omega), show (i : Int) + 1 = ((i + 1 : Nat) : Int) by omega, ih k (i + 1) (by omega) (by omega), hr, impl_len, Option.bind_some, impl_mtch, Option.bind_some]
    generalize ys[i] = r at ha
    cases h1 : isLen r.f0 r.f1.f0 r.f1.f1 r.f2 r.f3 r.f4 r.f5
    · rfl
    · rw [h1, Bool.true_and] at ha
      rw [ha]; rfl
theorem FnLent : laws_FnLent.Pure := by
  intro l0 _ _ _
  obtain ⟨K, hK⟩ : ∃ K, K = l0.length + 5000 := ⟨_, rfl⟩
  refine ⟨K + 1, ?_⟩
  unfold laws_FnLent.f
  simp only [laws_big.f, Option.bind_some]
  by_cases hb : (l0.length : Int) > 1048576
  · rw [if_pos (decide_eq_true hb)]
  · rw [if_neg (by rw [decide_eq_false hb]; decide)]
    obtain ⟨⟨xs, e, o, s, t⟩, e1, hx⟩ := drawLend_ok (K + 1) l0 (by omega) (by omega)
    rw [e1, Option.bind_some]
    dsimp only at hx ⊢
    rw [impl_LendTo_eq (K + 1) xs _ _ _ _ (by omega) (by omega), Option.bind_some]
    cases hv : (inR e 1 5 && (isSit o s && inR t 0 9995))
    · have hG : lendM e o s t = [] := by unfold lendM; rw [hv]; rfl
      have : lendTo xs e o s t = (xs, false) := by unfold lendTo finG; rw [hG]; rfl
      rw [this]
      simp
    · have hv' := hv
      rw [Bool.and_eq_true, Bool.and_eq_true] at hv'
      obtain ⟨he, hs, ht⟩ := hv'
      have ht' := ht
      unfold inR at ht'
      simp only [Bool.and_eq_true, decide_eq_true_eq] at ht'
      have hG : lendM e o s t = [⟨e, ⟨o, s⟩, 1, t, t + 5, false⟩, ⟨e, ⟨o, s⟩, 2, t, t + 5, false⟩] := by
        unfold lendM; rw [if_pos hv, wr (i := t + 5) (by omega) (by omega)]
      have hln : lendTo xs e o s t = if ((xs ++ newG xs (lendM e o s t)).length : Int) > 16 then (xs, false) else (xs ++ newG xs (lendM e o s t), true) := by
        unfold lendTo finG
        rw [if_neg (by rw [hG]; simp)]
      rw [hln]
      by_cases h16 : ((xs ++ newG xs (lendM e o s t)).length : Int) > 16
      · rw [if_pos h16]
        simp
      · rw [if_neg h16, if_pos rfl]
        have m1 := mem_newG xs (lendM e o s t) ⟨e, ⟨o, s⟩, 1, t, t + 5, false⟩ (by rw [hG]; simp)
        have m2 := mem_newG xs (lendM e o s t) ⟨e, ⟨o, s⟩, 2, t, t + 5, false⟩ (by rw [hG]; simp)
        generalize xs ++ newG xs (lendM e o s t) = out at m1 m2 h16 ⊢
        have hcov : ∀ q u : Int, q = 1 ∨ q = 2 → t ≤ u → u ≤ t + 5 → covr e o s q t (t + 5) false e o s q u false = true := by
          intro q u hq hu1 hu2
          have hs2 := hs
          unfold isSit inR at hs2
          unfold covr isGra mtch isPat isSit inR
          unfold inR at he
          simp only [Bool.and_eq_true, Bool.or_eq_true, decide_eq_true_eq, Bool.not_false, or_true, true_and, and_true] at he hs2 ⊢
          omega
        have a1 : (out.any fun r => covr r.f0 r.f1.f0 r.f1.f1 r.f2 r.f3 r.f4 r.f5 e o s 1 t false) = true := by
          rw [List.any_eq_true]
          exact ⟨_, m1, hcov 1 t (Or.inl rfl) (by omega) (by omega)⟩
        have a2 : (out.any fun r => covr r.f0 r.f1.f0 r.f1.f1 r.f2 r.f3 r.f4 r.f5 e o s 2 (t + 5) false) = true := by
          rw [List.any_eq_true]
          exact ⟨_, m2, hcov 2 (t + 5) (Or.inr rfl) (by omega) (by omega)⟩
        rw [impl_IsAllowed_eq (K + 1) out _ _ _ _ _ _ (by omega) (by omega), Option.bind_some, a1, if_pos rfl, wr (i := t + 5) (by omega) (by omega), impl_IsAllowed_eq (K + 1) out _ _ _ _ _ _ (by omega) (by omega), Option.bind_some, a2]
        simp only [laws_FnLent.j0, Bool.not_true, Bool.false_eq_true, if_false]
        have hfl := List.length_filter_le (fun r : S48 => !(isLen r.f0 r.f1.f0 r.f1.f1 r.f2 r.f3 r.f4 r.f5 && mtch r.f1.f0 r.f1.f1 o s)) out
        rw [impl_EndLending_eq K out o s (by omega) (by omega), Option.bind_some]
        exact lent_l0 out _ (by omega) (by omega) e o s t he hs ht (fun r hr => by
          have := (List.mem_filter.1 hr).2
          rw [Bool.not_eq_true'] at this
          exact this) _ K 0 (Nat.zero_add _) (by omega)

end Go.Proofs.Ytacgichgadoddaa.Pure
