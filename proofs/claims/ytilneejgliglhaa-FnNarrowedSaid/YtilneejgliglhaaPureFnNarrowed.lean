/- The printed function of the law FnNarrowed answers true, for all arguments, under no condition but that each whole number is one of its kind and that each slice has a length that fits. -/
import Derived.Test.YtilneejgliglhaaQNx45
namespace Go.Proofs.Ytilneejgliglhaa.Pure
open Go.RowKit Go.Proofs.Ytilneejgliglhaa.QN Go.Proofs.YtilneejgliglhaaW.PrintWords Go.Proofs.YtilneejgliglhaaW.PrintLast
set_option linter.unusedVariables false
set_option linter.unusedSimpArgs false
theorem wr {i : Int} (h0 : -9223372036854775808 ≤ i) (h1 : i ≤ 9223372036854775807) : wrap64 i = i := by unfold wrap64; omega
theorem beq_dec (a b : Int) : (a == b) = decide (a = b) := by by_cases h : a = b <;> simp [h]
theorem and_if (p : Prop) [Decidable p] (c : Bool) : (if p then some c else some false) = some (decide p && c) := by
  by_cases h : p <;> simp [h]
theorem or_if (p : Prop) [Decidable p] (c : Bool) : (if p then some true else some c) = some (decide p || c) := by
  by_cases h : p <;> simp [h]
def inR (a b c : Int) : Bool := decide (b ≤ a) && decide (a ≤ c)
def isPat (o s : Int) : Bool := inR o 0 9 && inR s (-1) 9
def isSit (o s : Int) : Bool := inR o 1 9 && inR s 0 9
def mtch (po ps o s : Int) : Bool := isPat po ps && (isSit o s && ((decide (po = 0) || decide (po = o)) && (decide (ps = -1) || decide (ps = s))))
def narr (po ps qo qs : Int) : Bool := isPat po ps && (isPat qo qs && ((decide (qo = 0) || decide (po = qo)) && (decide (qs = -1) || decide (ps = qs))))
def isGra (e po ps k f u : Int) : Bool := inR e 1 5 && (isPat po ps && (inR k 1 4 && (decide (0 ≤ f) && (decide (f ≤ u) && decide (u ≤ 10000)))))
def isLim (e po ps k : Int) : Bool := inR e 0 5 && (isPat po ps && inR k 0 4)
def covr (e po ps k f u : Int) (cl : Bool) (ext o s kind tick : Int) (ck : Bool) : Bool :=
  isGra e po ps k f u && (decide (e = ext) && (decide (k = kind) && (mtch po ps o s && (inR tick f u && (ck || !cl)))))
def isRul (e p po ps s a o b : Int) : Bool :=
  inR e 1 5 && (inR p 1 9 && (isPat po ps && (inR s 0 4 && ((decide (a = 1) || decide (a = 2)) && (decide (o = 0) && decide (b = 0)) || decide (a = 3) && isSit o b))))
def isReq (o s t : Int) : Bool := isSit o s && inR t 1 4
def appl (e p po ps s a o b qo qs qt : Int) : Bool := isRul e p po ps s a o b && (isReq qo qs qt && (mtch po ps qo qs && (decide (s = 0) || decide (s = qt))))
def isLen (e po ps k f u : Int) (cl : Bool) : Bool := isGra e po ps k f u && (decide (po ≠ 0) && (decide (ps ≠ -1) && ((decide (k = 1) || decide (k = 2)) && (decide (u = f + 5) && !cl))))
def isLab (x : Int) : Bool := inR x 0 1022 && decide (Int.tmod x 2 = 0)
def befo (ae ap aa ao ab be bp ba bo bb : Int) : Bool :=
  if ap = bp then (if aa = ba then (if ae = be then (if ao = bo then decide (ab < bb) else decide (ao < bo)) else decide (ae < be)) else decide (aa < ba)) else decide (bp < ap)
def within (e po ps k f u : Int) (cl : Bool) (e' po' ps' k' f' u' : Int) (cl' : Bool) : Bool :=
  isGra e po ps k f u && (isGra e' po' ps' k' f' u' && (decide (e = e') && (decide (k = k') && (narr po ps po' ps' && (decide (f' ≤ f) && (decide (u ≤ u') && (cl || !cl')))))))
theorem take_set1 {α : Type} (s : List α) (i : Nat) (v : α) (h : i < s.length) : (s.set i v).take (i + 1) = s.take i ++ [v] := by
  rw [List.take_succ_eq_append_getElem (by simpa using h), List.take_set, List.set_eq_of_length_le (by simp; omega)]
  simp
theorem loop_up {σ ρ : Type} (g : Nat → σ → Int → Option ρ) (n : Nat) (out : σ → Nat → ρ) (I : σ → Nat → Prop) (hn : n ≤ 9223372036854775806)
    (hstep : ∀ (k : Nat) (s : σ) (i : Nat), i < n → I s i → (∀ s', I s' (i + 1) → g k s' (wrap64 ((i : Int) + 1)) = some (out s' (i + 1))) → g (k + 1) s (i : Int) = some (out s i))
    (hend : ∀ (k : Nat) (s : σ), I s n → g (k + 1) s (n : Int) = some (out s n)) :
    ∀ (d k : Nat) (s : σ) (i : Nat), i + d = n → d < k → I s i → g k s (i : Int) = some (out s i) := by
  intro d
  induction d with
  | zero =>
    intro k s i hi hk hI
    obtain ⟨k, rfl⟩ : ∃ m, k = m + 1 := ⟨k - 1, by omega⟩
    obtain rfl : i = n := by omega
    exact hend k s hI
  | succ d ih =>
    intro k s i hi hk hI
    obtain ⟨k, rfl⟩ : ∃ m, k = m + 1 := ⟨k - 1, by omega⟩
    refine hstep k s i (by omega) hI fun s' hI' => ?_
    have := ih k s' (i + 1) (by omega) (by omega) hI'
    rw [wr (by omega) (by omega)]
    exact_mod_cast this
theorem loop_from {σ ρ : Type} {g : Nat → σ → Int → Option ρ} {n : Nat} {out : σ → Nat → ρ} {I : σ → Nat → Prop} (h : ∀ (d k : Nat) (s : σ) (i : Nat), i + d = n → d < k → I s i → g k s (i : Int) = some (out s i))
    (k : Nat) (hk : n < k) (s : σ) (hI : I s 0) : g k s 0 = some (out s 0) := by
  have := h n k s 0 (by omega) hk hI
  exact_mod_cast this
theorem drop_at {α : Type} (xs : List α) (i : Nat) (h : i < xs.length) : xs.drop i = xs[i] :: xs.drop (i + 1) := List.drop_eq_getElem_cons h

theorem nlt {n : Nat} : ¬ (n : Int) < (n : Int) := by omega
/-- where a list is copied element by element into a made one -/
theorem rd_at {α : Type} (z : α) (xs : List α) (i : Nat) (h : i < xs.length) : xs.getD (i : Int).toNat z = xs[i] := by simp [h]

theorem loop_upm {σ ρ : Type} (m : Nat) (g : Nat → σ → Int → Option ρ) (n : Nat) (out : σ → Nat → ρ) (I : σ → Nat → Prop) (hn : n ≤ 9223372036854775806)
    (hstep : ∀ (k : Nat) (s : σ) (i : Nat), m ≤ k → i < n → I s i → (∀ s', I s' (i + 1) → g k s' (wrap64 ((i : Int) + 1)) = some (out s' (i + 1))) → g (k + 1) s (i : Int) = some (out s i))
    (hend : ∀ (k : Nat) (s : σ), m ≤ k → I s n → g (k + 1) s (n : Int) = some (out s n)) :
    ∀ (d k : Nat) (s : σ) (i : Nat), i + d = n → d + m < k → I s i → g k s (i : Int) = some (out s i) := by
  intro d
  induction d with
  | zero =>
    intro k s i hi hk hI
    obtain ⟨k, rfl⟩ : ∃ m, k = m + 1 := ⟨k - 1, by omega⟩
    obtain rfl : i = n := by omega
    exact hend k s (by omega) hI
  | succ d ih =>
    intro k s i hi hk hI
    obtain ⟨k, rfl⟩ : ∃ m, k = m + 1 := ⟨k - 1, by omega⟩
    refine hstep k s i (by omega) (by omega) hI fun s' hI' => ?_
    have := ih k s' (i + 1) (by omega) (by omega) hI'
    rw [wr (by omega) (by omega)]
    exact_mod_cast this
theorem loop_fromm {σ ρ : Type} {m : Nat} {g : Nat → σ → Int → Option ρ} {n : Nat} {out : σ → Nat → ρ} {I : σ → Nat → Prop} (h : ∀ (d k : Nat) (s : σ) (i : Nat), i + d = n → d + m < k → I s i → g k s (i : Int) = some (out s i))
    (k : Nat) (hk : n + m < k) (s : σ) (hI : I s 0) : g k s 0 = some (out s 0) := by
  have := h n k s 0 (by omega) hk hI
  exact_mod_cast this
theorem loop_run {σ ρ : Type} (m : Nat) (g : Nat → σ → Int → Option ρ) (n : Nat) (out : σ → Nat → ρ) (I : σ → Nat → Prop) (hn : n ≤ 9223372036854775806)
    (hstep : ∀ (k : Nat) (s : σ) (i : Nat), m ≤ k → i < n → I s i → (∀ s', I s' (i + 1) → g k s' (wrap64 ((i : Int) + 1)) = some (out s' (i + 1))) → g (k + 1) s (i : Int) = some (out s i))
    (hend : ∀ (k : Nat) (s : σ), m ≤ k → I s n → g (k + 1) s (n : Int) = some (out s n)) (k : Nat) (hk : n + m < k) (s : σ) (hI : I s 0) : g k s 0 = some (out s 0) :=
  loop_fromm (loop_upm m g n out I hn hstep hend) k hk s hI
theorem if_and2 {α : Type} (a : Bool) (p : Prop) [Decidable p] (x y : α) : (if a = true then (if p then x else y) else y) = if (a && decide p) = true then x else y := by
  cases a <;> by_cases h : p <;> simp [h]

theorem if_nand {α : Type} (a b : Bool) (x y : α) : (if a = true then (if b = true then y else x) else x) = if (!(a && b)) = true then x else y := by
  cases a <;> cases b <;> simp
theorem rdPattern_i (xs : List S33) (i : Nat) (h : i < xs.length) : rd_T33 xs (i : Int) = xs[i] := rd_at _ xs i h
theorem rdGrant_i (xs : List S35) (i : Nat) (h : i < xs.length) : rd_T35 xs (i : Int) = xs[i] := rd_at _ xs i h
theorem rdLimit_i (xs : List S70) (i : Nat) (h : i < xs.length) : rd_T70 xs (i : Int) = xs[i] := rd_at _ xs i h

def ntM (e po ps k f u : Int) (c : Bool) (a b : Int) : Int × Int × Int × Int × Int × Int × Bool × Bool :=
  if (isGra e po ps k f u && isGra e po ps k (mx f a) (mn u b)) = true then (e, po, ps, k, mx f a, mn u b, c, true) else (0, 0, 0, 0, 0, 0, false, false)

def meetM (po ps qo qs : Int) : Int × Int × Bool :=
  let o := if qo = 0 then po else qo
  let s := if qs = -1 then ps else qs
  if (narr o s po ps && narr o s qo qs) = true then (o, s, true) else (0, 0, false)
def ngM (e po ps k f u : Int) (c : Bool) (qo qs : Int) : Int × Int × Int × Int × Int × Int × Bool × Bool :=
  if (isGra e po ps k f u && (meetM po ps qo qs).2.2) = true then (e, (meetM po ps qo qs).1, (meetM po ps qo qs).2.1, k, f, u, c, true) else (0, 0, 0, 0, 0, 0, false, false)

def witS (x y : S35) : Bool := within x.f0 x.f1.f0 x.f1.f1 x.f2 x.f3 x.f4 x.f5 y.f0 y.f1.f0 y.f1.f1 y.f2 y.f3 y.f4 y.f5
def witM (xs ys : List S35) : Bool := xs.all fun x => ys.any fun y => witS x y


theorem bind_ok {α β : Type} {o : Option α} {f : α → Option β} {Q : α → Prop} {R : β → Prop} (h : ∃ r, o = some r ∧ Q r) (hf : ∀ r, Q r → ∃ y, f r = some y ∧ R y) : ∃ y, o.bind f = some y ∧ R y := by
  obtain ⟨r, rfl, q⟩ := h; exact hf r q
theorem if_ok {β : Type} {p : Prop} [Decidable p] {a b : Option β} {R : β → Prop} (h : p → ∃ y, a = some y ∧ R y) (h' : ¬ p → ∃ y, b = some y ∧ R y) : ∃ y, (if p then a else b) = some y ∧ R y := by
  by_cases c : p
  · rw [if_pos c]; exact h c
  · rw [if_neg c]; exact h' c
theorem and255 (a : Int) : 0 ≤ Go.bits .and .i64 a 255 ∧ Go.bits .and .i64 a 255 ≤ 255 := by
  have h : ((BitVec.ofInt (IntKind.bits .i64) a) &&& (BitVec.ofInt (IntKind.bits .i64) 255)).toNat ≤ 255 := by
    rw [BitVec.toNat_and]; exact Nat.le_trans Nat.and_le_right (by decide)
  show 0 ≤ IntKind.wrap .i64 _ ∧ IntKind.wrap .i64 _ ≤ 255
  generalize ((BitVec.ofInt (IntKind.bits .i64) a) &&& (BitVec.ofInt (IntKind.bits .i64) 255)).toNat = n at h
  have e : IntKind.wrap .i64 (n : Int) = (n : Int) := by rw [i64_w]; exact wr (i := (n : Int)) (by omega) (by omega)
  rw [e]; omega

theorem new_ok (s : List Int) (hs : s.length ≤ 1048576) : ∀ (d k : Nat) (y : Int) (i : Nat), i + d = s.length → d < k → ∃ r, spec_l1New.l0 k s y (i : Int) = some r ∧ r.1 = s ∧ r.2.1 = 0 := by
  intro d
  induction d with
  | zero =>
    intro k y i hi hk
    obtain ⟨k, rfl⟩ : ∃ m, k = m + 1 := ⟨k - 1, by omega⟩
    simp only [spec_l1New.l0]
    rw [if_neg (by omega)]
    exact ⟨_, rfl, rfl, rfl⟩
  | succ d ih =>
    intro k y i hi hk
    obtain ⟨k, rfl⟩ : ∃ m, k = m + 1 := ⟨k - 1, by omega⟩
    simp only [spec_l1New.l0]
    rw [if_pos (by omega)]
    refine if_ok (fun _ => ?_) (fun _ => ⟨_, rfl, rfl, rfl⟩)
    rw [if_pos (by omega), wr (i := (i : Int) + 1) (by omega) (by omega)]
    exact ih k _ (i + 1) (by omega) (by omega)
theorem l1New_ok (k : Nat) (s : List Int) (hs : s.length ≤ 1048576) (hk : s.length < k) : ∃ r, spec_l1New.f k s = some r ∧ r.1 = s ∧ r.2.1 = 0 := by
  unfold spec_l1New.f
  exact new_ok s hs s.length k _ 0 (by omega) hk


theorem byte_ok (s : List Int) (p x : Int) (hs : s.length ≤ 1048576) (hp : 0 ≤ p) : ∃ r, spec_l1Byte.f s p x = some r ∧ (0 ≤ r.1 ∧ r.1 ≤ 255) ∧ 0 ≤ r.2.1 := by
  unfold spec_l1Byte.f
  refine if_ok (fun h => ?_) (fun _ => ⟨_, rfl, and255 _, hp⟩)
  rw [if_pos hp, wr (i := p + 1) (by omega) (by omega)]
  exact ⟨_, rfl, and255 _, by show (0 : Int) ≤ p + 1; omega⟩


theorem below_ok (s : List Int) (p x n : Int) (hs : s.length ≤ 1048576) (hp : 0 ≤ p) (h0 : 0 < n) (h1 : n ≤ 256) : ∃ r, spec_l1Below.f s p x n = some r ∧ (0 ≤ r.1 ∧ r.1 < n) ∧ 0 ≤ r.2.1 := by
  unfold spec_l1Below.f
  rw [if_neg (by omega), if_pos h1]
  refine bind_ok (byte_ok s p x hs hp) fun r hr => ?_
  rw [if_neg (by omega)]
  exact ⟨_, rfl, ⟨Int.tmod_nonneg _ hr.1.1, Int.tmod_lt_of_pos _ h0⟩, hr.2⟩


theorem once_ok (s : List Int) (p x n : Int) (hs : s.length ≤ 1048576) (hp : 0 ≤ p) (h0 : 0 < n) (h1 : n ≤ 256) : ∃ r, spec_l1Once.f s p x n = some r ∧ 0 ≤ r.2.1 := by
  unfold spec_l1Once.f
  exact bind_ok (below_ok s p x n hs hp h0 h1) fun r hr => ⟨_, rfl, hr.2⟩


theorem pattern_ok (s : List Int) (p x : Int) (hs : s.length ≤ 1048576) (hp : 0 ≤ p) : ∃ r, spec_l9Pattern.f s p x = some r ∧ 0 ≤ r.2.2.1 := by
  unfold spec_l9Pattern.f
  exact bind_ok (below_ok s p x _ hs hp (by omega) (by omega)) fun r hr => bind_ok (below_ok s _ _ _ hs hr.2 (by omega) (by omega)) fun r hr => ⟨_, rfl, hr.2⟩


theorem l10_ok (s : List Int) (p x : Int) (hs : s.length ≤ 1048576) (hp : 0 ≤ p) : ∃ r, spec_l10Draw.f s p x = some r ∧ 0 ≤ r.2.2.2.2.2.2.2.1 := by
  unfold spec_l10Draw.f
  exact bind_ok (below_ok s p x _ hs hp (by omega) (by omega)) fun r1 h1 => bind_ok (below_ok s _ _ _ hs h1.2 (by omega) (by omega)) fun r2 h2 => bind_ok (pattern_ok s _ _ hs h2.2) fun r3 h3 =>
    bind_ok (below_ok s _ _ _ hs h3 (by omega) (by omega)) fun r4 h4 => bind_ok (below_ok s _ _ _ hs h4.2 (by omega) (by omega)) fun r5 h5 => bind_ok (once_ok s _ _ _ hs h5.2 (by omega) (by omega)) fun r6 h6 => ⟨_, rfl, h6⟩


theorem l10_l0 (s : List Int) (hs : s.length ≤ 1048576) : ∀ (d k : Nat) (xs : List S35) (p x : Int), d < k → xs.length + d ≤ 1000 → 0 ≤ p → ∃ r, spec_l10List.l0 k xs (d : Int) s p x = some r ∧ r.1.length ≤ xs.length + d ∧ 0 ≤ r.2.1 := by
  intro d
  induction d with
  | zero =>
    intro k xs p x hk hl hp
    obtain ⟨k, rfl⟩ : ∃ m, k = m + 1 := ⟨k - 1, by omega⟩
    simp only [spec_l10List.l0]
    rw [if_neg (by omega)]
    exact ⟨_, rfl, Nat.le_refl _, hp⟩
  | succ d ih =>
    intro k xs p x hk hl hp
    obtain ⟨k, rfl⟩ : ∃ m, k = m + 1 := ⟨k - 1, by omega⟩
    simp only [spec_l10List.l0]
    rw [if_pos (by omega)]
    refine bind_ok (l10_ok s p x hs hp) fun r hr => ?_
    rw [if_pos (by omega), wr (by omega) (by omega), show (((d + 1 : Nat) : Int) - 1) = (d : Int) by omega]
    obtain ⟨r2, e, h1, h2⟩ := ih k (xs ++ [⟨r.1, ⟨r.2.1, r.2.2.1⟩, r.2.2.2.1, r.2.2.2.2.1, r.2.2.2.2.2.1, r.2.2.2.2.2.2.1⟩]) r.2.2.2.2.2.2.2.1 r.2.2.2.2.2.2.2.2 (by omega) (by simp; omega) hr
    simp only [List.length_append, List.length_singleton] at h1
    exact ⟨r2, e, by omega, h2⟩
theorem l10list_ok (k : Nat) (s : List Int) (p x : Int) (hs : s.length ≤ 1048576) (hk : 20 < k) (hp : 0 ≤ p) : ∃ r, spec_l10List.f k s p x = some r ∧ r.1.length ≤ 20 ∧ 0 ≤ r.2.1 := by
  unfold spec_l10List.f
  refine bind_ok (below_ok s p x 7 hs hp (by omega) (by omega)) fun r hr => ?_
  obtain ⟨r2, e, h1, h2⟩ := l10_l0 s hs r.1.toNat k [] r.2.1 r.2.2 (by omega) (by simp; omega) hr.2
  rw [show ((r.1.toNat : Nat) : Int) = r.1 by omega] at e
  exact ⟨r2, e, by simp at h1; omega, h2⟩


theorem l11draw_ok (s : List Int) (p x : Int) (hs : s.length ≤ 1048576) (hp : 0 ≤ p) : ∃ r, spec_l11Draw.f s p x = some r ∧ 0 ≤ r.2.2.2.2.1 := by
  unfold spec_l11Draw.f
  exact bind_ok (below_ok s p x _ hs hp (by omega) (by omega)) fun r1 h1 => bind_ok (pattern_ok s _ _ hs h1.2) fun r2 h2 => bind_ok (below_ok s _ _ _ hs h2 (by omega) (by omega)) fun r3 h3 => ⟨_, rfl, h3.2⟩


theorem l11_l0 (s : List Int) (hs : s.length ≤ 1048576) : ∀ (d k : Nat) (xs : List S70) (p x : Int), d < k → xs.length + d ≤ 1000 → 0 ≤ p → ∃ r, spec_l11List.l0 k xs (d : Int) s p x = some r ∧ (r.1.length ≤ xs.length + d ∧ 0 ≤ r.2.1) := by
  intro d
  induction d with
  | zero =>
    intro k xs p x hk hl hp
    obtain ⟨k, rfl⟩ : ∃ m, k = m + 1 := ⟨k - 1, by omega⟩
    simp only [spec_l11List.l0]
    rw [if_neg (by omega)]
    exact ⟨_, rfl, Nat.le_refl _, hp⟩
  | succ d ih =>
    intro k xs p x hk hl hp
    obtain ⟨k, rfl⟩ : ∃ m, k = m + 1 := ⟨k - 1, by omega⟩
    simp only [spec_l11List.l0]
    rw [if_pos (by omega)]
    refine bind_ok (l11draw_ok s p x hs hp) fun r hr => ?_
    rw [if_pos (by omega), wr (by omega) (by omega), show ((d + 1 : Nat) : Int) - 1 = (d : Int) by omega]
    obtain ⟨y, h1, h2, h3⟩ := ih k (xs ++ [⟨r.1, ⟨r.2.1, r.2.2.1⟩, r.2.2.2.1⟩]) r.2.2.2.2.1 r.2.2.2.2.2 (by omega) (by simp; omega) hr
    exact ⟨y, h1, by simp at h2; omega, h3⟩
theorem l11list_ok (k : Nat) (s : List Int) (p x : Int) (hs : s.length ≤ 1048576) (hk : 20 < k) (hp : 0 ≤ p) : ∃ r, spec_l11List.f k s p x = some r ∧ (r.1.length ≤ 3 ∧ 0 ≤ r.2.1) := by
  unfold spec_l11List.f
  refine bind_ok (below_ok s p x _ hs hp (by omega) (by omega)) fun r hr => ?_
  obtain ⟨⟨h0, h1⟩, h2⟩ := hr
  obtain ⟨y, e1, e2, e3⟩ := l11_l0 s hs r.1.toNat k [] r.2.1 r.2.2 (by omega) (by simp; omega) h2
  rw [show ((r.1.toNat : Nat) : Int) = r.1 by omega] at e1
  exact ⟨y, e1, by simp at e2; omega, e3⟩


theorem site_ok (s : List Int) (p x : Int) (hs : s.length ≤ 1048576) (hp : 0 ≤ p) : ∃ r, spec_l9Site.f s p x = some r ∧ 0 ≤ r.2.2.1 := by
  unfold spec_l9Site.f
  exact bind_ok (below_ok s p x _ hs hp (by omega) (by omega)) fun r hr => bind_ok (below_ok s _ _ _ hs hr.2 (by omega) (by omega)) fun r hr => ⟨_, rfl, hr.2⟩

theorem impl_in (a b c : Int) : impl_InRange.f a b c = some (inR a b c) := by
  unfold impl_InRange.f inR; exact and_if _ _

theorem impl_pat (a b : Int) : impl_IsPattern.f a b = some (isPat a b) := by
  unfold impl_IsPattern.f isPat; simp only [impl_in, Option.bind_some]; cases inR a 0 9 <;> simp

theorem impl_sit (a b : Int) : impl_IsSite.f a b = some (isSit a b) := by
  unfold impl_IsSite.f isSit; simp only [impl_in, Option.bind_some]; cases inR a 1 9 <;> simp

theorem impl_gra (e po ps k f u : Int) (c : Bool) : impl_IsGrant.f e po ps k f u c = some (isGra e po ps k f u) := by
  unfold impl_IsGrant.f isGra; simp only [impl_in, impl_pat, Option.bind_some]
  cases inR e 1 5 <;> cases isPat po ps <;> cases inR k 1 4 <;> simp
  by_cases h1 : 0 ≤ f <;> by_cases h2 : f ≤ u <;> simp [h1, h2]


theorem impl_lim (e po ps k : Int) : impl_IsLimit.f e po ps k = some (isLim e po ps k) := by
  unfold impl_IsLimit.f isLim; simp only [impl_in, impl_pat, Option.bind_some]
  cases inR e 0 5 <;> cases isPat po ps <;> simp

theorem spec_in (a b c : Int) : spec_l1In.f a b c = some (inR a b c) := by
  unfold spec_l1In.f inR; exact and_if _ _

theorem spec_pat (a b : Int) : spec_IsPattern.f a b = some (isPat a b) := by
  unfold spec_IsPattern.f isPat; simp only [spec_in, Option.bind_some]; cases inR a 0 9 <;> simp

theorem spec_gra (e po ps k f u : Int) (c : Bool) : spec_IsGrant.f e po ps k f u c = some (isGra e po ps k f u) := by
  unfold spec_IsGrant.f isGra; simp only [spec_in, spec_pat, Option.bind_some]
  cases inR e 1 5 <;> cases isPat po ps <;> cases inR k 1 4 <;> simp
  by_cases h1 : 0 ≤ f <;> by_cases h2 : f ≤ u <;> simp [h1, h2]

theorem spec_sit (a b : Int) : spec_IsSite.f a b = some (isSit a b) := by
  unfold spec_IsSite.f isSit; simp only [spec_in, Option.bind_some]; cases inR a 1 9 <;> simp


theorem int_ok (s : List Int) (p x : Int) (l : List Int) (hs : s.length ≤ 1048576) (hp : 0 ≤ p) (h0 : 0 < l.length) (h1 : l.length ≤ 256) : ∃ r, spec_l1Int.f s p x l = some r ∧ 0 ≤ r.2.1 := by
  unfold spec_l1Int.f
  refine bind_ok (below_ok s p x _ hs hp (by omega) (by omega)) fun r hr => ?_
  rw [if_pos hr.1.1, if_pos hr.1.2]
  exact ⟨_, rfl, hr.2⟩


theorem raw_ok (s : List Int) (p x : Int) (hs : s.length ≤ 1048576) (hp : 0 ≤ p) : ∃ r, spec_l9Raw.f s p x = some r ∧ 0 ≤ r.2.1 := by
  unfold spec_l9Raw.f
  exact bind_ok (int_ok s p x _ hs hp (by decide) (by decide)) fun r hr => ⟨_, rfl, hr⟩


theorem drawMayDo_ok (k : Nat) (s : List Int) (hs : s.length ≤ 1048576) (hk : s.length + 200 < k) : ∃ r, spec_DrawMayDo.f k s = some r ∧ (r.1.length ≤ 20 ∧ r.2.1.length ≤ 3) := by
  unfold spec_DrawMayDo.f
  refine bind_ok (l1New_ok k s hs (by omega)) fun r hr => ?_
  obtain ⟨e1, e2⟩ := hr
  rw [e1]
  exact bind_ok (l10list_ok k s _ _ hs (by omega) (by omega)) fun r2 h2 => bind_ok (l11list_ok k s _ _ hs (by omega) h2.2) fun r3 h3 => bind_ok (below_ok s _ _ _ hs h3.2 (by omega) (by omega)) fun r4 h4 => bind_ok (site_ok s _ _ hs h4.2) fun r5 h5 => bind_ok (below_ok s _ _ _ hs h5 (by omega) (by omega)) fun r6 h6 => bind_ok (below_ok s _ _ _ hs h6.2 (by omega) (by omega)) fun r7 h7 => bind_ok (once_ok s _ _ _ hs h7.2 (by omega) (by omega)) fun r8 h8 => ⟨_, rfl, h2.1, h3.1⟩

theorem impl_mtch (a b c d : Int) : impl_MatchSite.f a b c d = some (mtch a b c d) := by
  unfold impl_MatchSite.f mtch; simp only [impl_pat, impl_sit, Option.bind_some]
  cases isPat a b <;> cases isSit c d <;> simp
  by_cases h1 : a = 0 <;> by_cases h2 : a = c <;> by_cases h3 : b = -1 <;> simp [h1, h2, h3] <;> simp [beq_dec]

theorem impl_covr (e po ps k f u : Int) (cl : Bool) (ext o s kind tick : Int) (ck : Bool) : impl_Covers.f e po ps k f u cl ext o s kind tick ck = some (covr e po ps k f u cl ext o s kind tick ck) := by
  unfold impl_Covers.f covr; simp only [impl_gra, impl_mtch, impl_in, Option.bind_some]
  cases isGra e po ps k f u <;> cases mtch po ps o s <;> cases inR tick f u <;> cases ck <;> by_cases h1 : e = ext <;> by_cases h2 : k = kind <;> simp [h1, h2]

theorem impl_IsAllowed_eq (k : Nat) (xs : List S35) (e o s kd t : Int) (ck : Bool) (hn : xs.length ≤ 1048576) (hk : xs.length + 0 < k) : impl_IsAllowed.f k xs e o s kd t ck = some (xs.any fun r => covr r.f0 r.f1.f0 r.f1.f1 r.f2 r.f3 r.f4 r.f5 e o s kd t ck) := by
  have L := loop_run (0) (fun k (_ : Unit) i => impl_IsAllowed.l0 k e kd t ck xs (xs.length : Int) i o s) xs.length (fun _ i => (xs.drop i).any fun r => covr r.f0 r.f1.f0 r.f1.f1 r.f2 r.f3 r.f4 r.f5 e o s kd t ck) (fun _ _ => True) (by omega)
    (fun k u_ i hm hi hI ih => by
      have hd := drop_at xs i hi
      have hr := rdGrant_i xs i hi
      generalize xs[i] = r at hd hr
      have ih' := ih () trivial
      try dsimp only at ih'
      simp only [impl_IsAllowed.l0]
      rw [if_pos (by omega), if_pos (by omega), if_pos (by omega)]
      simp only [hr, impl_covr, Option.bind_some]
      rw [hd, List.any_cons, ih']
      cases covr r.f0 r.f1.f0 r.f1.f1 r.f2 r.f3 r.f4 r.f5 e o s kd t ck <;> simp)
    (fun k u_ hm hI => by
      simp only [impl_IsAllowed.l0]
      rw [if_neg nlt, List.drop_of_length_le (Nat.le_refl _)]
      rfl) k hk () trivial
  try dsimp only at L
  unfold impl_IsAllowed.f
  rw [L]
  rfl


theorem impl_IsDenied_eq (k : Nat) (xs : List S70) (e o s kd : Int) (hn : xs.length ≤ 1048576) (hk : xs.length + 0 < k) : impl_IsDenied.f k xs e o s kd = some (xs.any fun r => isLim r.f0 r.f1.f0 r.f1.f1 r.f2 && ((decide (r.f0 = 0) || decide (r.f0 = e)) && ((decide (r.f2 = 0) || decide (r.f2 = kd)) && mtch r.f1.f0 r.f1.f1 o s))) := by
  have L := loop_run (0) (fun k (_ : Unit) i => impl_IsDenied.l0 k e kd xs (xs.length : Int) i o s) xs.length (fun _ i => (xs.drop i).any fun r => isLim r.f0 r.f1.f0 r.f1.f1 r.f2 && ((decide (r.f0 = 0) || decide (r.f0 = e)) && ((decide (r.f2 = 0) || decide (r.f2 = kd)) && mtch r.f1.f0 r.f1.f1 o s))) (fun _ _ => True) (by omega)
    (fun k u_ i hm hi hI ih => by
      have hd := drop_at xs i hi
      have hr := rdLimit_i xs i hi
      generalize xs[i] = r at hd hr
      have ih' := ih () trivial
      try dsimp only at ih'
      simp only [impl_IsDenied.l0]
      rw [if_pos (by omega), if_pos (by omega), if_pos (by omega)]
      simp only [hr, impl_lim, impl_mtch, Option.bind_some]
      rw [hd, List.any_cons, ih']
      cases isLim r.f0 r.f1.f0 r.f1.f1 r.f2 <;> cases mtch r.f1.f0 r.f1.f1 o s <;> by_cases h1 : r.f0 = 0 <;> by_cases h2 : r.f0 = e <;> by_cases h3 : r.f2 = 0 <;> by_cases h4 : r.f2 = kd <;> simp [h1, h2, h3, h4])
    (fun k u_ hm hI => by
      simp only [impl_IsDenied.l0]
      rw [if_neg nlt, List.drop_of_length_le (Nat.le_refl _)]
      rfl) k hk () trivial
  try dsimp only at L
  unfold impl_IsDenied.f
  rw [L]
  rfl


theorem impl_MayDo_eq (k : Nat) (xs : List S35) (ys : List S70) (e o s kd t : Int) (ck : Bool) (hn : xs.length ≤ 1048576) (hk : xs.length < k) (hn2 : ys.length ≤ 1048576) (hk2 : ys.length < k) :
    impl_MayDo.f k xs ys e o s kd t ck = some ((xs.any fun r => covr r.f0 r.f1.f0 r.f1.f1 r.f2 r.f3 r.f4 r.f5 e o s kd t ck) && !(ys.any fun r => isLim r.f0 r.f1.f0 r.f1.f1 r.f2 && ((decide (r.f0 = 0) || decide (r.f0 = e)) && ((decide (r.f2 = 0) || decide (r.f2 = kd)) && mtch r.f1.f0 r.f1.f1 o s)))) := by
  unfold impl_MayDo.f
  rw [impl_IsAllowed_eq k xs e o s kd t ck hn (by omega), impl_IsDenied_eq k ys e o s kd hn2 (by omega)]
  simp only [Option.bind_some]
  cases (xs.any fun r => covr r.f0 r.f1.f0 r.f1.f1 r.f2 r.f3 r.f4 r.f5 e o s kd t ck) <;> simp

theorem spec_mtch (a b c d : Int) : spec_MatchSite.f a b c d = some (mtch a b c d) := by
  unfold spec_MatchSite.f mtch; simp only [spec_pat, spec_sit, Option.bind_some]
  cases isPat a b <;> cases isSit c d <;> simp
  by_cases h1 : a = 0 <;> by_cases h2 : a = c <;> by_cases h3 : b = -1 <;> simp [h1, h2, h3] <;> simp [beq_dec]

theorem spec_covr (e po ps k f u : Int) (cl : Bool) (ext o s kind tick : Int) (ck : Bool) : spec_Covers.f e po ps k f u cl ext o s kind tick ck = some (covr e po ps k f u cl ext o s kind tick ck) := by
  unfold spec_Covers.f covr; simp only [spec_gra, spec_mtch, spec_in, Option.bind_some]
  cases isGra e po ps k f u <;> cases mtch po ps o s <;> cases inR tick f u <;> cases ck <;> by_cases h1 : e = ext <;> by_cases h2 : k = kind <;> simp [h1, h2]

theorem spec_IsAllowed_eq (k : Nat) (xs : List S35) (e o s kd t : Int) (ck : Bool) (hn : xs.length ≤ 1048576) (hk : xs.length + 0 < k) : spec_IsAllowed.f k xs e o s kd t ck = some (xs.any fun r => covr r.f0 r.f1.f0 r.f1.f1 r.f2 r.f3 r.f4 r.f5 e o s kd t ck) := by
  have L := loop_run (0) (fun k (_ : Unit) i => spec_IsAllowed.l0 k xs e kd t ck i o s) xs.length (fun _ i => (xs.drop i).any fun r => covr r.f0 r.f1.f0 r.f1.f1 r.f2 r.f3 r.f4 r.f5 e o s kd t ck) (fun _ _ => True) (by omega)
    (fun k u_ i hm hi hI ih => by
      have hd := drop_at xs i hi
      have hr := rdGrant_i xs i hi
      generalize xs[i] = r at hd hr
      have ih' := ih () trivial
      try dsimp only at ih'
      simp only [spec_IsAllowed.l0]
      rw [if_pos (by omega), if_pos (by omega)]
      simp only [hr, spec_covr, Option.bind_some]
      rw [hd, List.any_cons, ih']
      cases covr r.f0 r.f1.f0 r.f1.f1 r.f2 r.f3 r.f4 r.f5 e o s kd t ck <;> simp)
    (fun k u_ hm hI => by
      simp only [spec_IsAllowed.l0]
      rw [if_neg nlt, List.drop_of_length_le (Nat.le_refl _)]
      rfl) k hk () trivial
  try dsimp only at L
  unfold spec_IsAllowed.f
  rw [L]
  rfl


theorem any_ok (s : List Int) (p x : Int) (hs : s.length ≤ 1048576) (hp : 0 ≤ p) : ∃ r, spec_l9Any.f s p x = some r ∧ 0 ≤ r.2.2.1 := by
  unfold spec_l9Any.f
  refine bind_ok (pattern_ok s p x hs hp) fun r hr => bind_ok (below_ok s _ _ _ hs hr (by omega) (by omega)) fun r2 hr2 => if_ok (fun _ => ?_) (fun _ => if_ok (fun _ => ?_) (fun _ => ?_))
  · exact bind_ok (raw_ok s _ _ hs hr2.2) fun r3 hr3 => ⟨_, rfl, hr3⟩
  · exact bind_ok (raw_ok s _ _ hs hr2.2) fun r3 hr3 => ⟨_, rfl, hr3⟩
  · exact ⟨_, rfl, hr2.2⟩


theorem l10any_ok (s : List Int) (p x : Int) (hs : s.length ≤ 1048576) (hp : 0 ≤ p) : ∃ r, spec_l10Any.f s p x = some r ∧ 0 ≤ r.2.2.2.2.2.2.2.1 := by
  unfold spec_l10Any.f
  refine bind_ok (l10_ok s p x hs hp) fun r1 h1 => bind_ok (below_ok s _ _ _ hs h1 (by omega) (by omega)) fun r2 h2 => ?_
  repeat' first
    | (refine if_ok (fun _ => ?_) (fun _ => ?_))
    | (refine bind_ok (raw_ok s _ _ hs h2.2) fun r3 h3 => ?_)
    | (refine bind_ok (int_ok s _ _ _ hs h2.2 (by decide) (by decide)) fun r3 h3 => ?_)
    | (refine bind_ok (any_ok s _ _ hs h2.2) fun r3 h3 => ?_)
    | (refine ⟨_, rfl, ?_⟩; first | exact h2.2 | assumption)


theorem drawNG_ok (k : Nat) (s : List Int) (hs : s.length ≤ 1048576) (hk : s.length + 200 < k) : ∃ r, spec_DrawNarrowGrant.f k s = some r ∧ True := by
  unfold spec_DrawNarrowGrant.f
  refine bind_ok (l1New_ok k s hs (by omega)) fun r hr => ?_
  obtain ⟨e1, e2⟩ := hr
  rw [e1]
  exact bind_ok (l10any_ok s _ _ hs (by omega)) fun r2 h2 => bind_ok (any_ok s _ _ hs h2) fun r3 h3 => ⟨_, rfl, trivial⟩

theorem impl_narr (a b c d : Int) : impl_IsNarrower.f a b c d = some (narr a b c d) := by
  unfold impl_IsNarrower.f narr; simp only [impl_pat, Option.bind_some]
  cases isPat a b <;> cases isPat c d <;> simp
  by_cases h1 : c = 0 <;> by_cases h2 : a = c <;> by_cases h3 : d = -1 <;> simp [h1, h2, h3] <;> simp [beq_dec]

theorem impl_meet (n : Nat) (a b c d : Int) : impl_MeetPatterns.f (n + 2) a b c d = some (meetM a b c d) := by
  unfold impl_MeetPatterns.f meetM
  simp only [impl_MeetPatterns.j0, impl_MeetPatterns.j1, impl_narr, impl_pat, Option.bind_some]
  cases hp : isPat a b
  · simp [narr, hp]
  · cases hq : isPat c d
    · simp [narr, hq]
    · simp only [if_true, Bool.not_true, Bool.false_eq_true, if_false]
      have hp' := hp
      have hq' := hq
      simp only [isPat, inR, Bool.and_eq_true, decide_eq_true_eq] at hp' hq'
      by_cases h1 : a = 0 <;> by_cases h2 : b = -1 <;> by_cases h3 : c = 0 <;> by_cases h4 : d = -1 <;> by_cases h5 : a = c <;> by_cases h6 : b = d <;>
        simp_all [narr, isPat, inR] <;> omega

theorem impl_ng (n : Nat) (e po ps k f u : Int) (c : Bool) (qo qs : Int) : impl_NarrowGrant.f (n + 2) e po ps k f u c qo qs = some (ngM e po ps k f u c qo qs) := by
  unfold impl_NarrowGrant.f ngM
  simp only [impl_meet, impl_gra, Option.bind_some]
  cases isGra e po ps k f u <;> cases (meetM po ps qo qs).2.2 <;> simp


theorem impl_wit_in (xs ys : List S35) (hn : ys.length ≤ 1048576) (x : S35) (c : Bool) (n a : Int) (R : Bool) (B : Nat)
    (H : ∀ k, B ≤ k → impl_IsWithinGrants.l0 k ys xs n (wrap64 (a + 1)) = some R) :
    ∀ (d k b : Nat), b + d = ys.length → d + B < k → impl_IsWithinGrants.l1 k ys false xs n a ys (ys.length : Int) b x.f0 x.f1.f0 x.f1.f1 x.f2 x.f3 x.f4 x.f5 = some (((ys.drop b).any fun y => witS x y) && R) := by
  intro d
  induction d with
  | zero =>
    intro k b hb hk
    obtain ⟨k, rfl⟩ : ∃ m, k = m + 1 := ⟨k - 1, by omega⟩
    simp only [impl_IsWithinGrants.l1]
    rw [if_neg (by omega), List.drop_of_length_le (by omega)]
    simp
  | succ d ih =>
    intro k b hb hk
    obtain ⟨k, rfl⟩ : ∃ m, k = m + 1 := ⟨k - 1, by omega⟩
    have hq := rdGrant_i ys b (by omega)
    have hd := drop_at ys b (by omega)
    have e := ih k (b + 1) (by omega) (by omega)
    have e2 := H k (by omega)
    simp only [impl_IsWithinGrants.l1]
    have hw : wrap64 ((b : Int) + 1) = ((b + 1 : Nat) : Int) := by rw [wr (by omega) (by omega)]; omega
    rw [if_pos (by omega), if_pos (by omega), if_pos (by omega), hw, e, e2, hq, hd, List.any_cons]
    generalize ys[b]'(by omega) = y
    simp only [impl_gra, impl_narr, Option.bind_some]
    unfold witS within
    cases isGra x.f0 x.f1.f0 x.f1.f1 x.f2 x.f3 x.f4 <;> cases isGra y.f0 y.f1.f0 y.f1.f1 y.f2 y.f3 y.f4 <;> cases narr x.f1.f0 x.f1.f1 y.f1.f0 y.f1.f1 <;> cases x.f5 <;> cases y.f5 <;>
      by_cases h1 : x.f0 = y.f0 <;> by_cases h2 : x.f2 = y.f2 <;> by_cases h3 : y.f3 ≤ x.f3 <;> by_cases h4 : x.f4 ≤ y.f4 <;> simp [h1, h2, h3, h4]
theorem impl_wit_out (xs ys : List S35) (hn : ys.length ≤ 1048576) (hx : xs.length ≤ 1048576) :
    ∀ (d k a : Nat), a + d = xs.length → d * (ys.length + 2) < k → impl_IsWithinGrants.l0 k ys xs (xs.length : Int) a = some (witM (xs.drop a) ys) := by
  intro d
  induction d with
  | zero =>
    intro k a ha hk
    obtain ⟨k, rfl⟩ : ∃ m, k = m + 1 := ⟨k - 1, by omega⟩
    simp only [impl_IsWithinGrants.l0]
    rw [if_neg (by omega), List.drop_of_length_le (by omega)]
    rfl
  | succ d ih =>
    intro k a ha hk
    obtain ⟨k, rfl⟩ : ∃ m, k = m + 1 := ⟨k - 1, by omega⟩
    have hm : (d + 1) * (ys.length + 2) = d * (ys.length + 2) + (ys.length + 2) := Nat.succ_mul _ _
    have hd := drop_at xs a (by omega)
    have hr := rdGrant_i xs a (by omega)
    simp only [impl_IsWithinGrants.l0]
    rw [if_pos (by omega), if_pos (by omega), if_pos (by omega), hr]
    have := impl_wit_in xs ys hn (xs[a]'(by omega)) false (xs.length : Int) a _ (d * (ys.length + 2) + 1) (fun k' hk' => by rw [wr (by omega) (by omega), show ((a : Int) + 1) = ((a + 1 : Nat) : Int) by omega]; exact ih k' (a + 1) (by omega) (by omega)) ys.length k 0 (by omega) (by omega)
    rw [show ((0 : Nat) : Int) = 0 from rfl] at this
    rw [this, hd]
    simp only [witM, List.all_cons, Bool.false_or, List.drop_zero]
theorem impl_wit (k : Nat) (xs ys : List S35) (hx : xs.length ≤ 1048576) (hn : ys.length ≤ 1048576) (hk : xs.length * (ys.length + 2) < k) : impl_IsWithinGrants.f k xs ys = some (witM xs ys) := by
  unfold impl_IsWithinGrants.f
  have := impl_wit_out xs ys hn hx xs.length k 0 (by omega) hk
  rw [show ((0 : Nat) : Int) = 0 from rfl] at this
  rw [this, List.drop_zero]


theorem drawNT_ok (k : Nat) (s : List Int) (hs : s.length ≤ 1048576) (hk : s.length + 200 < k) : ∃ r, spec_DrawNarrowTime.f k s = some r ∧ True := by
  unfold spec_DrawNarrowTime.f
  refine bind_ok (l1New_ok k s hs (by omega)) fun r hr => ?_
  obtain ⟨e1, e2⟩ := hr
  rw [e1]
  exact bind_ok (l10any_ok s _ _ hs (by omega)) fun r2 h2 => bind_ok (int_ok s _ _ _ hs h2 (by decide) (by decide)) fun r3 h3 => bind_ok (int_ok s _ _ _ hs h3 (by decide) (by decide)) fun r4 h4 => ⟨_, rfl, trivial⟩


theorem impl_NarrowTime_eq (e po ps k f u : Int) (c : Bool) (a b : Int) : impl_NarrowTime.f e po ps k f u c a b = some (ntM e po ps k f u c a b) := by
  unfold impl_NarrowTime.f ntM
  simp only [impl_gra, Option.bind_some]
  cases isGra e po ps k f u <;> cases isGra e po ps k (mx f a) (mn u b) <;> simp

theorem spec_narr (a b c d : Int) : spec_IsNarrower.f a b c d = some (narr a b c d) := by
  unfold spec_IsNarrower.f narr; simp only [spec_pat, Option.bind_some]
  cases isPat a b <;> cases isPat c d <;> simp
  by_cases h1 : c = 0 <;> by_cases h2 : a = c <;> by_cases h3 : d = -1 <;> simp [h1, h2, h3] <;> simp [beq_dec]

theorem spec_meet (n : Nat) (a b c d : Int) : spec_MeetPatterns.f (n + 2) a b c d = some (meetM a b c d) := by
  unfold spec_MeetPatterns.f meetM
  simp only [spec_MeetPatterns.j0, spec_MeetPatterns.j1, spec_narr, Option.bind_some]
  by_cases h1 : c = 0 <;> by_cases h2 : d = -1 <;> simp only [h1, h2, if_true, if_false]
  · cases narr a b a b <;> cases narr a b 0 (-1) <;> simp
  · cases narr a d a b <;> cases narr a d 0 d <;> simp
  · cases narr c b a b <;> cases narr c b c (-1) <;> simp
  · cases narr c d a b <;> cases narr c d c d <;> simp

theorem spec_ng (n : Nat) (e po ps k f u : Int) (c : Bool) (qo qs : Int) : spec_NarrowGrant.f (n + 2) e po ps k f u c qo qs = some (ngM e po ps k f u c qo qs) := by
  unfold spec_NarrowGrant.f ngM
  simp only [spec_meet, spec_gra, Option.bind_some]
  cases isGra e po ps k f u <;> cases (meetM po ps qo qs).2.2 <;> simp


theorem dWG_l0 (s : List Int) (hs : s.length ≤ 1048576) (B : List S35) (hB : B.length ≤ 20) : ∀ (d k i : Nat) (A : List S35) (p x : Int), i + d = B.length → A.length ≤ i → 0 ≤ p → d + 5 < k → ∃ r, spec_DrawIsWithinGrants.l0 k B A (i : Int) s p x = some r ∧ (r.1.length ≤ 30 ∧ r.2.length ≤ 20) := by
  intro d
  induction d with
  | zero =>
    intro k i A p x hi hA hp hk
    obtain ⟨k, rfl⟩ : ∃ m, k = m + 1 := ⟨k - 1, by omega⟩
    simp only [spec_DrawIsWithinGrants.l0]
    rw [if_neg (by omega)]
    refine bind_ok (once_ok s _ _ _ hs hp (by omega) (by omega)) fun r hr => if_ok (fun _ => ?_) (fun _ => ⟨_, rfl, by show A.length ≤ 30; omega, hB⟩)
    refine bind_ok (l10any_ok s _ _ hs hr) fun r2 h2 => ?_
    rw [if_pos (by omega)]
    exact ⟨_, rfl, by show (A ++ [_]).length ≤ 30; rw [List.length_append, List.length_singleton]; omega, hB⟩
  | succ d ih =>
    intro k i A p x hi hA hp hk
    obtain ⟨k, rfl⟩ : ∃ m, k = m + 1 := ⟨k - 1, by omega⟩
    simp only [spec_DrawIsWithinGrants.l0]
    rw [if_pos (by omega), if_pos (by omega), wr (by omega) (by omega), show (i : Int) + 1 = ((i + 1 : Nat) : Int) by omega]
    refine bind_ok (pattern_ok s _ _ hs hp) fun r hr => ?_
    obtain ⟨k', rfl⟩ : ∃ m, k = m + 2 := ⟨k - 2, by omega⟩
    rw [spec_ng, Option.bind_some]
    refine if_ok (fun _ => ?_) (fun _ => ih (k' + 2) (i + 1) _ _ _ (by omega) (by omega) hr (by omega))
    refine bind_ok (once_ok s _ _ _ hs hr (by omega) (by omega)) fun r3 h3 => if_ok (fun _ => ?_) (fun _ => ih (k' + 2) (i + 1) _ _ _ (by omega) (by omega) h3 (by omega))
    rw [if_pos (by omega)]
    exact ih (k' + 2) (i + 1) _ _ _ (by omega) (by simp; omega) h3 (by omega)
theorem drawWG_ok (k : Nat) (s : List Int) (hs : s.length ≤ 1048576) (hk : s.length + 200 < k) : ∃ r, spec_DrawIsWithinGrants.f k s = some r ∧ (r.1.length ≤ 30 ∧ r.2.length ≤ 20) := by
  unfold spec_DrawIsWithinGrants.f
  refine bind_ok (l1New_ok k s hs (by omega)) fun r hr => ?_
  obtain ⟨e1, e2⟩ := hr
  rw [e1]
  exact bind_ok (l10list_ok k s _ _ hs (by omega) (by omega)) fun r2 h2 => dWG_l0 s hs r2.1 h2.1 r2.1.length k 0 [] _ _ (by omega) (by simp) h2.2 (by omega)


theorem mtch_iff (po ps o s : Int) : mtch po ps o s = true ↔ ((0 ≤ po ∧ po ≤ 9) ∧ (-1 ≤ ps ∧ ps ≤ 9)) ∧ ((1 ≤ o ∧ o ≤ 9) ∧ (0 ≤ s ∧ s ≤ 9)) ∧ (po = 0 ∨ po = o) ∧ (ps = -1 ∨ ps = s) := by
  unfold mtch isPat isSit inR
  simp only [Bool.and_eq_true, Bool.or_eq_true, decide_eq_true_eq]
theorem narr_iff (po ps qo qs : Int) : narr po ps qo qs = true ↔ ((0 ≤ po ∧ po ≤ 9) ∧ (-1 ≤ ps ∧ ps ≤ 9)) ∧ ((0 ≤ qo ∧ qo ≤ 9) ∧ (-1 ≤ qs ∧ qs ≤ 9)) ∧ (qo = 0 ∨ po = qo) ∧ (qs = -1 ∨ ps = qs) := by
  unfold narr isPat inR
  simp only [Bool.and_eq_true, Bool.or_eq_true, decide_eq_true_eq]
theorem meet_is (po ps qo qs : Int) : ∃ mo ms, (mo = if qo = 0 then po else qo) ∧ (ms = if qs = -1 then ps else qs) ∧ (((meetM po ps qo qs).2.2 = true ∧ (meetM po ps qo qs).1 = mo ∧ (meetM po ps qo qs).2.1 = ms ∧ narr mo ms po ps = true ∧ narr mo ms qo qs = true) ∨ ((meetM po ps qo qs).2.2 = false ∧ (narr mo ms po ps && narr mo ms qo qs) = false)) := by
  refine ⟨_, _, rfl, rfl, ?_⟩
  unfold meetM
  dsimp only
  generalize (if qo = 0 then po else qo) = mo
  generalize (if qs = -1 then ps else qs) = ms
  cases h : (narr mo ms po ps && narr mo ms qo qs)
  · right; exact ⟨rfl, rfl⟩
  · left
    rw [Bool.and_eq_true] at h
    exact ⟨rfl, rfl, rfl, h.1, h.2⟩
theorem both_is (po ps qo qs o s : Int) : (mtch po ps o s && mtch qo qs o s) = ((meetM po ps qo qs).2.2 && mtch (meetM po ps qo qs).1 (meetM po ps qo qs).2.1 o s) := by
  obtain ⟨mo, ms, e1, e2, h⟩ := meet_is po ps qo qs
  rw [Bool.eq_iff_iff, Bool.and_eq_true, Bool.and_eq_true]
  rcases h with ⟨h1, h2, h3, h4, h5⟩ | ⟨h1, h2⟩
  · rw [h1, h2, h3, mtch_iff, mtch_iff, mtch_iff]
    simp only [true_and]
    rw [narr_iff] at h4 h5
    by_cases c1 : qo = 0 <;> by_cases c2 : qs = -1 <;> simp only [c1, c2, if_true, if_false] at e1 e2 <;> subst e1 <;> subst e2 <;> omega
  · rw [h1, mtch_iff, mtch_iff]
    rw [Bool.eq_false_iff, Ne, Bool.and_eq_true, narr_iff, narr_iff] at h2
    constructor
    · intro h
      exfalso
      apply h2
      by_cases c1 : qo = 0 <;> by_cases c2 : qs = -1 <;> simp only [c1, c2, if_true, if_false] at e1 e2 <;> subst e1 <;> subst e2 <;> omega
    · intro h; exact absurd h.1 (by decide)
def fS (po ps qo qs : Int) (n : Nat) : Bool := mtch po ps ((1 + n / 10 : Nat) : Int) ((n % 10 : Nat) : Int) && mtch qo qs ((1 + n / 10 : Nat) : Int) ((n % 10 : Nat) : Int)
def gS (po ps qo qs : Int) (n : Nat) : Bool := !mtch po ps ((1 + n / 10 : Nat) : Int) ((n % 10 : Nat) : Int) || mtch qo qs ((1 + n / 10 : Nat) : Int) ((n % 10 : Nat) : Int)

def cvS (r : S35) (e o s kd t : Int) (ck : Bool) : Bool := covr r.f0 r.f1.f0 r.f1.f1 r.f2 r.f3 r.f4 r.f5 e o s kd t ck
theorem wit_cov (x y : S35) (e o s kd t : Int) (ck : Bool) (h : witS x y = true) (hc : cvS x e o s kd t ck = true) : cvS y e o s kd t ck = true := by
  unfold witS within narr at h
  unfold cvS covr mtch inR at hc ⊢
  simp only [Bool.and_eq_true, Bool.or_eq_true, decide_eq_true_eq, Bool.not_eq_true'] at h hc ⊢
  obtain ⟨_, g2, h3, h4, ⟨p1, p2, p3, p4⟩, h5, h6, h7⟩ := h
  obtain ⟨_, c2, c3, ⟨m1, m2, m3, m4⟩, ⟨t1, t2⟩, c5⟩ := hc
  refine ⟨g2, by omega, by omega, ⟨p2, m2, by omega, by omega⟩, ⟨by omega, by omega⟩, ?_⟩
  rcases c5 with c5 | c5
  · exact Or.inl c5
  · rcases h7 with h7 | h7
    · rw [h7] at c5; exact absurd c5 (by decide)
    · exact Or.inr h7
theorem wit_all (xs ys : List S35) (e o s kd t : Int) (ck : Bool) (h : witM xs ys = true) (hc : (xs.any fun r => cvS r e o s kd t ck) = true) : (ys.any fun r => cvS r e o s kd t ck) = true := by
  rw [List.any_eq_true] at hc ⊢
  obtain ⟨x, hx, hc⟩ := hc
  unfold witM at h
  rw [List.all_eq_true] at h
  have h2 := h x hx
  rw [List.any_eq_true] at h2
  obtain ⟨y, hy, hw⟩ := h2
  exact ⟨y, hy, wit_cov x y e o s kd t ck hw hc⟩
theorem wit_one (x y : S35) : witM [x] [y] = witS x y := by simp [witM]
theorem ng_cases (e po ps k f u : Int) (c : Bool) (qo qs : Int) : (ngM e po ps k f u c qo qs = (0, 0, 0, 0, 0, 0, false, false)) ∨
    ∃ mo ms, ngM e po ps k f u c qo qs = (e, mo, ms, k, f, u, c, true) ∧ isGra e po ps k f u = true ∧ isGra e mo ms k f u = true ∧ narr mo ms po ps = true ∧ ∀ o s, mtch mo ms o s = (mtch po ps o s && mtch qo qs o s) := by
  obtain ⟨mo, ms, _, _, hm⟩ := meet_is po ps qo qs
  have hb := both_is po ps qo qs
  unfold ngM
  by_cases h : (isGra e po ps k f u && (meetM po ps qo qs).2.2) = true
  · rw [if_pos h]
    rw [Bool.and_eq_true] at h
    refine Or.inr ⟨_, _, rfl, h.1, ?_, ?_, fun o s => by rw [hb, h.2, Bool.true_and]⟩
    all_goals
      rcases hm with ⟨m1, m2, m3, m4, m5⟩ | hm
      · rw [m2, m3]
        first
        | exact m4
        | (have g := h.1
           unfold narr at m4
           unfold isGra at g ⊢
           simp only [Bool.and_eq_true] at g m4 ⊢
           exact ⟨g.1, m4.1, g.2.2⟩)
      · exfalso
        simp_all
  · rw [if_neg h]; exact Or.inl rfl
theorem nt_cases (e po ps k f u : Int) (c : Bool) (a b : Int) : (ntM e po ps k f u c a b = (0, 0, 0, 0, 0, 0, false, false)) ∨
    (ntM e po ps k f u c a b = (e, po, ps, k, mx f a, mn u b, c, true) ∧ isGra e po ps k f u = true ∧ isGra e po ps k (mx f a) (mn u b) = true) := by
  unfold ntM
  by_cases h : (isGra e po ps k f u && isGra e po ps k (mx f a) (mn u b)) = true
  · rw [if_pos h]
    rw [Bool.and_eq_true] at h
    exact Or.inr ⟨rfl, h.1, h.2⟩
  · rw [if_neg h]; exact Or.inl rfl
theorem mx_ge (a b : Int) : a ≤ mx a b ∧ b ≤ mx a b := by unfold mx; split <;> omega
theorem mn_le (a b : Int) : mn a b ≤ a ∧ mn a b ≤ b := by unfold mn; split <;> omega
theorem narr_refl (e po ps k f u : Int) (h : isGra e po ps k f u = true) : narr po ps po ps = true := by
  unfold isGra at h
  simp only [Bool.and_eq_true] at h
  unfold narr
  rw [h.2.1]
  simp
theorem nar_l1 (xs ys : List S35) (hx : xs.length ≤ 30) (hy : ys.length ≤ 20) (hw : witM xs ys = true) (e o s : Int) (ck : Bool) (t : Int) (KB : Nat)
    (H : ∀ k, KB ≤ k → laws_FnNarrowed.l0 k e ck xs ys (wrap64 (t + 1)) o s = some true) : ∀ (d k i : Nat), i + d = 5 → KB + d + 40 < k → laws_FnNarrowed.l1 k e ck xs ys t (i : Int) o s = some true := by
  intro d
  induction d with
  | zero =>
    intro k i hi hk
    obtain ⟨k, rfl⟩ : ∃ m, k = m + 1 := ⟨k - 1, by omega⟩
    simp only [laws_FnNarrowed.l1]
    rw [if_neg (by omega)]
    exact H k (by omega)
  | succ d ih =>
    intro k i hi hk
    obtain ⟨k, rfl⟩ : ∃ m, k = m + 1 := ⟨k - 1, by omega⟩
    simp only [laws_FnNarrowed.l1]
    rw [if_pos (by omega), impl_IsAllowed_eq k xs _ _ _ _ _ _ (by omega) (by omega), Option.bind_some, wr (i := (i : Int) + 1) (by omega) (by omega), show (i : Int) + 1 = ((i + 1 : Nat) : Int) by omega]
    have ih' := ih k (i + 1) (by omega) (by omega)
    cases hc : (xs.any fun r => covr r.f0 r.f1.f0 r.f1.f1 r.f2 r.f3 r.f4 r.f5 e o s (i : Int) t ck) with
    | true =>
      have h2 := wit_all xs ys e o s (i : Int) t ck hw hc
      unfold cvS at h2
      rw [if_pos rfl, impl_IsAllowed_eq k ys _ _ _ _ _ _ (by omega) (by omega), Option.bind_some, h2, if_pos rfl]
      exact ih'
    | false =>
      rw [if_neg (by decide)]
      exact ih'
theorem nar_l0 (xs ys : List S35) (hx : xs.length ≤ 30) (hy : ys.length ≤ 20) (hw : witM xs ys = true) (e o s : Int) (ck : Bool) : ∀ (d k i : Nat), i + d = 22 → d * 100 + 100 < k → laws_FnNarrowed.l0 k e ck xs ys (i : Int) o s = some true := by
  intro d
  induction d with
  | zero =>
    intro k i hi hk
    obtain ⟨k, rfl⟩ : ∃ m, k = m + 1 := ⟨k - 1, by omega⟩
    simp only [laws_FnNarrowed.l0]
    rw [if_neg (by omega)]
  | succ d ih =>
    intro k i hi hk
    obtain ⟨k, rfl⟩ : ∃ m, k = m + 1 := ⟨k - 1, by omega⟩
    simp only [laws_FnNarrowed.l0]
    rw [if_pos (by omega)]
    have := nar_l1 xs ys hx hy hw e o s ck (i : Int) (d * 100 + 101) (fun k hk => by
      rw [wr (by omega) (by omega), show (i : Int) + 1 = ((i + 1 : Nat) : Int) by omega]
      exact ih k (i + 1) (by omega) (by omega)) 4 k 1 (by omega) (by omega)
    exact this
theorem nar_j2 (l0 : List Int) (hl : l0.length ≤ 1048576) (e o s : Int) (ck : Bool) (k : Nat) (hk : l0.length + 4000 < k) : laws_FnNarrowed.j2 k l0 e ck false o s = some true := by
  obtain ⟨k, rfl⟩ : ∃ m, k = m + 1 := ⟨k - 1, by omega⟩
  simp only [laws_FnNarrowed.j2]
  obtain ⟨⟨xs, ys⟩, e1, hx, hy⟩ := drawWG_ok k l0 hl (by omega)
  dsimp only at hx hy
  have hm : xs.length * (ys.length + 2) ≤ 30 * 22 := Nat.mul_le_mul (by omega) (by omega)
  rw [if_neg (by decide), e1, Option.bind_some, impl_wit k xs ys (by omega) (by omega) (by omega), Option.bind_some]
  dsimp only
  cases hw : witM xs ys with
  | true =>
    rw [if_pos rfl]
    exact nar_l0 xs ys hx hy hw e o s ck 22 k 0 (by omega) (by omega)
  | false => rw [if_neg (by decide)]
theorem nar_j1 (l0 : List Int) (hl : l0.length ≤ 1048576) (e o s : Int) (ck : Bool) (k : Nat) (hk : l0.length + 4010 < k) : laws_FnNarrowed.j1 k l0 e ck false o s = some true := by
  obtain ⟨k, rfl⟩ : ∃ m, k = m + 1 := ⟨k - 1, by omega⟩
  simp only [laws_FnNarrowed.j1]
  have hj := nar_j2 l0 hl e o s ck k (by omega)
  obtain ⟨⟨a, po, ps, kd, f, u, c, x, y⟩, e1, _⟩ := drawNT_ok k l0 hl (by omega)
  rw [if_neg (by decide), e1, Option.bind_some, impl_NarrowTime_eq, Option.bind_some]
  dsimp only
  rcases nt_cases a po ps kd f u c x y with h | ⟨h, g1, g2⟩
  · rw [h]
    dsimp only
    rw [if_neg (by decide)]
    exact hj
  · rw [h]
    dsimp only
    have m1 := mx_ge f x
    have m2 := mn_le u y
    have hw : witM [⟨a, ⟨po, ps⟩, kd, mx f x, mn u y, c⟩] [⟨a, ⟨po, ps⟩, kd, f, u, c⟩] = true := by
      rw [wit_one]
      unfold witS within
      rw [g1, g2, narr_refl a po ps kd f u g1]
      simp
      exact ⟨by omega, by omega⟩
    rw [if_pos rfl, impl_wit k _ _ (by simp) (by simp) (by simp; omega), Option.bind_some, hw, if_pos rfl, if_neg (by omega), decide_eq_false (by omega)]
    exact hj
theorem nar_j0 (l0 : List Int) (hl : l0.length ≤ 1048576) (e kd t o s : Int) (ck : Bool) (k : Nat) (hk : l0.length + 4020 < k) : laws_FnNarrowed.j0 k l0 e kd t ck false o s = some true := by
  obtain ⟨k, rfl⟩ : ∃ m, k = m + 1 := ⟨k - 1, by omega⟩
  simp only [laws_FnNarrowed.j0]
  have hj := nar_j1 l0 hl e o s ck k (by omega)
  obtain ⟨⟨a, po, ps, kk, f, u, c, qo, qs⟩, e1, _⟩ := drawNG_ok k l0 hl (by omega)
  obtain ⟨k2, rfl⟩ : ∃ m, k = m + 2 := ⟨k - 2, by omega⟩
  rw [if_neg (by decide), e1, Option.bind_some, impl_ng, Option.bind_some]
  dsimp only
  rcases ng_cases a po ps kk f u c qo qs with h | ⟨mo, ms, h, g1, g2, hn, hm⟩
  · rw [h]
    dsimp only
    rw [if_neg (by decide)]
    exact hj
  · rw [h]
    dsimp only
    have hw : witM [⟨a, ⟨mo, ms⟩, kk, f, u, c⟩] [⟨a, ⟨po, ps⟩, kk, f, u, c⟩] = true := by
      rw [wit_one]
      unfold witS within
      rw [g1, g2, hn]
      simp
    rw [if_pos rfl, impl_wit (k2 + 2) _ _ (by simp) (by simp) (by simp; omega), Option.bind_some, hw, if_pos rfl, impl_covr, Option.bind_some, impl_covr, Option.bind_some]
    have ec : covr a mo ms kk f u c e o s kd t ck = (covr a po ps kk f u c e o s kd t ck && mtch qo qs o s) := by
      unfold covr
      rw [g1, g2, hm]
      cases mtch po ps o s <;> cases mtch qo qs o s <;> simp
    rw [ec]
    cases hcov : covr a po ps kk f u c e o s kd t ck with
    | true =>
      rw [if_pos rfl, impl_mtch, Option.bind_some, Bool.true_and, bne_self_eq_false]
      exact hj
    | false =>
      rw [if_neg (by decide), Bool.false_and, bne_self_eq_false]
      exact hj
theorem FnNarrowed : laws_FnNarrowed.Pure := by
  intro l0 _ _ _
  obtain ⟨K, hK⟩ : ∃ K, K = l0.length + 5000 := ⟨_, rfl⟩
  refine ⟨K, ?_⟩
  unfold laws_FnNarrowed.f
  simp only [laws_big.f, Option.bind_some]
  by_cases hb : (l0.length : Int) > 1048576
  · rw [if_pos (decide_eq_true hb)]
  · rw [if_neg (by rw [decide_eq_false hb]; decide)]
    obtain ⟨⟨g, l, e, o, s, kd, t, ck⟩, e1, hg, hl⟩ := drawMayDo_ok K l0 (by omega) (by omega)
    rw [e1, Option.bind_some]
    dsimp only at hg hl ⊢
    have hj := nar_j0 l0 (by omega) e kd t o s ck K (by omega)
    have hA := impl_IsAllowed_eq K g e o s kd t ck (by omega) (by omega)
    have hA2 := spec_IsAllowed_eq K g e o s kd t ck (by omega) (by omega)
    have hM := impl_MayDo_eq K g l e o s kd t ck (by omega) (by omega) (by omega) (by omega)
    have hM0 := impl_MayDo_eq K g [] e o s kd t ck (by omega) (by omega) (by simp) (by simp; omega)
    have hD := impl_IsDenied_eq K l e o s kd (by omega) (by omega)
    rw [List.any_nil, Bool.not_false, Bool.and_true] at hM0
    generalize (g.any fun r => covr r.f0 r.f1.f0 r.f1.f1 r.f2 r.f3 r.f4 r.f5 e o s kd t ck) = A at hA hA2 hM hM0
    generalize (l.any fun r => isLim r.f0 r.f1.f0 r.f1.f1 r.f2 && ((decide (r.f0 = 0) || decide (r.f0 = e)) && ((decide (r.f2 = 0) || decide (r.f2 = kd)) && mtch r.f1.f0 r.f1.f1 o s))) = D at hM hD
    rw [hM, Option.bind_some, hA, Option.bind_some, hA2, Option.bind_some, if_neg (by simp)]
    cases A <;> cases D <;> simp only [hA, hD, hM0, Option.bind_some, Bool.and_true, Bool.and_false, Bool.not_true, Bool.not_false, Bool.true_and, Bool.false_and, Bool.false_eq_true, if_true, if_false, bne_self_eq_false] <;> exact hj

end Go.Proofs.Ytilneejgliglhaa.Pure
