/- The printed function of the law FnRules answers true, for all arguments, under no condition but that each whole number is one of its kind and that each slice has a length that fits. -/
import Derived.Test.YtacgichgadoddaaQJx33
namespace Go.Proofs.Ytacgichgadoddaa.Pure
open Go.RowKit Go.Proofs.Ytacgichgadoddaa.QJ Go.Proofs.YtacgichgadoddaaW.PrintWords Go.Proofs.YtacgichgadoddaaW.PrintLast
set_option linter.unusedVariables false
set_option linter.unusedSimpArgs false
theorem wr {i : Int} (h0 : -9223372036854775808 ≤ i) (h1 : i ≤ 9223372036854775807) : wrap64 i = i := by unfold wrap64; omega
theorem beq_dec (a b : Int) : (a == b) = decide (a = b) := by by_cases h : a = b <;> simp [h]
theorem and_if (p : Prop) [Decidable p] (c : Bool) : (if p then some c else some false) = some (decide p && c) := by
  by_cases h : p <;> simp [h]
theorem or_if (p : Prop) [Decidable p] (c : Bool) : (if p then some true else some c) = some (decide p || c) := by
  by_cases h : p <;> simp [h]
def inR (a b c : Int) : Bool := decide (b ≤ a) && decide (a ≤ c)
def isPat (o s : Int) : Bool := inR o 0 9 && inR s (-1) 9
def isSit (o s : Int) : Bool := inR o 1 9 && inR s 0 9
def mtch (po ps o s : Int) : Bool := isPat po ps && (isSit o s && ((decide (po = 0) || decide (po = o)) && (decide (ps = -1) || decide (ps = s))))
def narr (po ps qo qs : Int) : Bool := isPat po ps && (isPat qo qs && ((decide (qo = 0) || decide (po = qo)) && (decide (qs = -1) || decide (ps = qs))))
def isGra (e po ps k f u : Int) : Bool := inR e 1 5 && (isPat po ps && (inR k 1 4 && (decide (0 ≤ f) && (decide (f ≤ u) && decide (u ≤ 10000)))))
def isLim (e po ps k : Int) : Bool := inR e 0 5 && (isPat po ps && inR k 0 4)
def covr (e po ps k f u : Int) (cl : Bool) (ext o s kind tick : Int) (ck : Bool) : Bool :=
  isGra e po ps k f u && (decide (e = ext) && (decide (k = kind) && (mtch po ps o s && (inR tick f u && (ck || !cl)))))
def isRul (e p po ps s a o b : Int) : Bool :=
  inR e 1 5 && (inR p 1 9 && (isPat po ps && (inR s 0 4 && ((decide (a = 1) || decide (a = 2)) && (decide (o = 0) && decide (b = 0)) || decide (a = 3) && isSit o b))))
def isReq (o s t : Int) : Bool := isSit o s && inR t 1 4
def appl (e p po ps s a o b qo qs qt : Int) : Bool := isRul e p po ps s a o b && (isReq qo qs qt && (mtch po ps qo qs && (decide (s = 0) || decide (s = qt))))
def isLen (e po ps k f u : Int) (cl : Bool) : Bool := isGra e po ps k f u && (decide (po ≠ 0) && (decide (ps ≠ -1) && ((decide (k = 1) || decide (k = 2)) && (decide (u = f + 5) && !cl))))
def isLab (x : Int) : Bool := inR x 0 1022 && decide (Int.tmod x 2 = 0)
def befo (ae ap aa ao ab be bp ba bo bb : Int) : Bool :=
  if ap = bp then (if aa = ba then (if ae = be then (if ao = bo then decide (ab < bb) else decide (ao < bo)) else decide (ae < be)) else decide (aa < ba)) else decide (bp < ap)
def within (e po ps k f u : Int) (cl : Bool) (e' po' ps' k' f' u' : Int) (cl' : Bool) : Bool :=
  isGra e po ps k f u && (isGra e' po' ps' k' f' u' && (decide (e = e') && (decide (k = k') && (narr po ps po' ps' && (decide (f' ≤ f) && (decide (u ≤ u') && (cl || !cl')))))))
theorem take_set1 {α : Type} (s : List α) (i : Nat) (v : α) (h : i < s.length) : (s.set i v).take (i + 1) = s.take i ++ [v] := by
  rw [List.take_succ_eq_append_getElem (by simpa using h), List.take_set, List.set_eq_of_length_le (by simp; omega)]
  simp
theorem loop_up {σ ρ : Type} (g : Nat → σ → Int → Option ρ) (n : Nat) (out : σ → Nat → ρ) (I : σ → Nat → Prop) (hn : n ≤ 9223372036854775806)
    (hstep : ∀ (k : Nat) (s : σ) (i : Nat), i < n → I s i → (∀ s', I s' (i + 1) → g k s' (wrap64 ((i : Int) + 1)) = some (out s' (i + 1))) → g (k + 1) s (i : Int) = some (out s i))
    (hend : ∀ (k : Nat) (s : σ), I s n → g (k + 1) s (n : Int) = some (out s n)) :
    ∀ (d k : Nat) (s : σ) (i : Nat), i + d = n → d < k → I s i → g k s (i : Int) = some (out s i) := by
  intro d
  induction d with
  | zero =>
    intro k s i hi hk hI
    obtain ⟨k, rfl⟩ : ∃ m, k = m + 1 := ⟨k - 1, by omega⟩
    obtain rfl : i = n := by omega
    exact hend k s hI
  | succ d ih =>
    intro k s i hi hk hI
    obtain ⟨k, rfl⟩ : ∃ m, k = m + 1 := ⟨k - 1, by omega⟩
    refine hstep k s i (by omega) hI fun s' hI' => ?_
    have := ih k s' (i + 1) (by omega) (by omega) hI'
    rw [wr (by omega) (by omega)]
    exact_mod_cast this
theorem loop_from {σ ρ : Type} {g : Nat → σ → Int → Option ρ} {n : Nat} {out : σ → Nat → ρ} {I : σ → Nat → Prop} (h : ∀ (d k : Nat) (s : σ) (i : Nat), i + d = n → d < k → I s i → g k s (i : Int) = some (out s i))
    (k : Nat) (hk : n < k) (s : σ) (hI : I s 0) : g k s 0 = some (out s 0) := by
  have := h n k s 0 (by omega) hk hI
  exact_mod_cast this
theorem drop_at {α : Type} (xs : List α) (i : Nat) (h : i < xs.length) : xs.drop i = xs[i] :: xs.drop (i + 1) := List.drop_eq_getElem_cons h

theorem nlt {n : Nat} : ¬ (n : Int) < (n : Int) := by omega
/-- where a list is copied element by element into a made one -/
theorem rd_at {α : Type} (z : α) (xs : List α) (i : Nat) (h : i < xs.length) : xs.getD (i : Int).toNat z = xs[i] := by simp [h]

theorem loop_upm {σ ρ : Type} (m : Nat) (g : Nat → σ → Int → Option ρ) (n : Nat) (out : σ → Nat → ρ) (I : σ → Nat → Prop) (hn : n ≤ 9223372036854775806)
    (hstep : ∀ (k : Nat) (s : σ) (i : Nat), m ≤ k → i < n → I s i → (∀ s', I s' (i + 1) → g k s' (wrap64 ((i : Int) + 1)) = some (out s' (i + 1))) → g (k + 1) s (i : Int) = some (out s i))
    (hend : ∀ (k : Nat) (s : σ), m ≤ k → I s n → g (k + 1) s (n : Int) = some (out s n)) :
    ∀ (d k : Nat) (s : σ) (i : Nat), i + d = n → d + m < k → I s i → g k s (i : Int) = some (out s i) := by
  intro d
  induction d with
  | zero =>
    intro k s i hi hk hI
    obtain ⟨k, rfl⟩ : ∃ m, k = m + 1 := ⟨k - 1, by omega⟩
    obtain rfl : i = n := by omega
    exact hend k s (by omega) hI
  | succ d ih =>
    intro k s i hi hk hI
    obtain ⟨k, rfl⟩ : ∃ m, k = m + 1 := ⟨k - 1, by omega⟩
    refine hstep k s i (by omega) (by omega) hI fun s' hI' => ?_
    have := ih k s' (i + 1) (by omega) (by omega) hI'
    rw [wr (by omega) (by omega)]
    exact_mod_cast this
theorem loop_fromm {σ ρ : Type} {m : Nat} {g : Nat → σ → Int → Option ρ} {n : Nat} {out : σ → Nat → ρ} {I : σ → Nat → Prop} (h : ∀ (d k : Nat) (s : σ) (i : Nat), i + d = n → d + m < k → I s i → g k s (i : Int) = some (out s i))
    (k : Nat) (hk : n + m < k) (s : σ) (hI : I s 0) : g k s 0 = some (out s 0) := by
  have := h n k s 0 (by omega) hk hI
  exact_mod_cast this
theorem loop_run {σ ρ : Type} (m : Nat) (g : Nat → σ → Int → Option ρ) (n : Nat) (out : σ → Nat → ρ) (I : σ → Nat → Prop) (hn : n ≤ 9223372036854775806)
    (hstep : ∀ (k : Nat) (s : σ) (i : Nat), m ≤ k → i < n → I s i → (∀ s', I s' (i + 1) → g k s' (wrap64 ((i : Int) + 1)) = some (out s' (i + 1))) → g (k + 1) s (i : Int) = some (out s i))
    (hend : ∀ (k : Nat) (s : σ), m ≤ k → I s n → g (k + 1) s (n : Int) = some (out s n)) (k : Nat) (hk : n + m < k) (s : σ) (hI : I s 0) : g k s 0 = some (out s 0) :=
  loop_fromm (loop_upm m g n out I hn hstep hend) k hk s hI
theorem if_and2 {α : Type} (a : Bool) (p : Prop) [Decidable p] (x y : α) : (if a = true then (if p then x else y) else y) = if (a && decide p) = true then x else y := by
  cases a <;> by_cases h : p <;> simp [h]

theorem if_nand {α : Type} (a b : Bool) (x y : α) : (if a = true then (if b = true then y else x) else x) = if (!(a && b)) = true then x else y := by
  cases a <;> cases b <;> simp
theorem rdPattern_i (xs : List S32) (i : Nat) (h : i < xs.length) : rd_T32 xs (i : Int) = xs[i] := rd_at _ xs i h
theorem rdSite_i (xs : List S33) (i : Nat) (h : i < xs.length) : rd_T33 xs (i : Int) = xs[i] := rd_at _ xs i h
theorem rdRule_i (xs : List S35) (i : Nat) (h : i < xs.length) : rd_T35 xs (i : Int) = xs[i] := rd_at _ xs i h

theorem impl_in (a b c : Int) : impl_InRange.f a b c = some (inR a b c) := by
  unfold impl_InRange.f inR; exact and_if _ _

theorem impl_pat (a b : Int) : impl_IsPattern.f a b = some (isPat a b) := by
  unfold impl_IsPattern.f isPat; simp only [impl_in, Option.bind_some]; cases inR a 0 9 <;> simp

theorem impl_sit (a b : Int) : impl_IsSite.f a b = some (isSit a b) := by
  unfold impl_IsSite.f isSit; simp only [impl_in, Option.bind_some]; cases inR a 1 9 <;> simp


theorem bind_ok {α β : Type} {o : Option α} {f : α → Option β} {Q : α → Prop} {R : β → Prop} (h : ∃ r, o = some r ∧ Q r) (hf : ∀ r, Q r → ∃ y, f r = some y ∧ R y) : ∃ y, o.bind f = some y ∧ R y := by
  obtain ⟨r, rfl, q⟩ := h; exact hf r q
theorem if_ok {β : Type} {p : Prop} [Decidable p] {a b : Option β} {R : β → Prop} (h : p → ∃ y, a = some y ∧ R y) (h' : ¬ p → ∃ y, b = some y ∧ R y) : ∃ y, (if p then a else b) = some y ∧ R y := by
  by_cases c : p
  · rw [if_pos c]; exact h c
  · rw [if_neg c]; exact h' c
theorem and255 (a : Int) : 0 ≤ Go.bits .and .i64 a 255 ∧ Go.bits .and .i64 a 255 ≤ 255 := by
  have h : ((BitVec.ofInt (IntKind.bits .i64) a) &&& (BitVec.ofInt (IntKind.bits .i64) 255)).toNat ≤ 255 := by
    rw [BitVec.toNat_and]; exact Nat.le_trans Nat.and_le_right (by decide)
  show 0 ≤ IntKind.wrap .i64 _ ∧ IntKind.wrap .i64 _ ≤ 255
  generalize ((BitVec.ofInt (IntKind.bits .i64) a) &&& (BitVec.ofInt (IntKind.bits .i64) 255)).toNat = n at h
  have e : IntKind.wrap .i64 (n : Int) = (n : Int) := by rw [i64_w]; exact wr (i := (n : Int)) (by omega) (by omega)
  rw [e]; omega

theorem new_ok (s : List Int) (hs : s.length ≤ 1048576) : ∀ (d k : Nat) (y : Int) (i : Nat), i + d = s.length → d < k → ∃ r, spec_l1New.l0 k s y (i : Int) = some r ∧ r.1 = s ∧ r.2.1 = 0 := by
  intro d
  induction d with
  | zero =>
    intro k y i hi hk
    obtain ⟨k, rfl⟩ : ∃ m, k = m + 1 := ⟨k - 1, by omega⟩
    simp only [spec_l1New.l0]
    rw [if_neg (by omega)]
    exact ⟨_, rfl, rfl, rfl⟩
  | succ d ih =>
    intro k y i hi hk
    obtain ⟨k, rfl⟩ : ∃ m, k = m + 1 := ⟨k - 1, by omega⟩
    simp only [spec_l1New.l0]
    rw [if_pos (by omega)]
    refine if_ok (fun _ => ?_) (fun _ => ⟨_, rfl, rfl, rfl⟩)
    rw [if_pos (by omega), wr (i := (i : Int) + 1) (by omega) (by omega)]
    exact ih k _ (i + 1) (by omega) (by omega)
theorem l1New_ok (k : Nat) (s : List Int) (hs : s.length ≤ 1048576) (hk : s.length < k) : ∃ r, spec_l1New.f k s = some r ∧ r.1 = s ∧ r.2.1 = 0 := by
  unfold spec_l1New.f
  exact new_ok s hs s.length k _ 0 (by omega) hk


theorem byte_ok (s : List Int) (p x : Int) (hs : s.length ≤ 1048576) (hp : 0 ≤ p) : ∃ r, spec_l1Byte.f s p x = some r ∧ (0 ≤ r.1 ∧ r.1 ≤ 255) ∧ 0 ≤ r.2.1 := by
  unfold spec_l1Byte.f
  refine if_ok (fun h => ?_) (fun _ => ⟨_, rfl, and255 _, hp⟩)
  rw [if_pos hp, wr (i := p + 1) (by omega) (by omega)]
  exact ⟨_, rfl, and255 _, by show (0 : Int) ≤ p + 1; omega⟩


theorem below_ok (s : List Int) (p x n : Int) (hs : s.length ≤ 1048576) (hp : 0 ≤ p) (h0 : 0 < n) (h1 : n ≤ 256) : ∃ r, spec_l1Below.f s p x n = some r ∧ (0 ≤ r.1 ∧ r.1 < n) ∧ 0 ≤ r.2.1 := by
  unfold spec_l1Below.f
  rw [if_neg (by omega), if_pos h1]
  refine bind_ok (byte_ok s p x hs hp) fun r hr => ?_
  rw [if_neg (by omega)]
  exact ⟨_, rfl, ⟨Int.tmod_nonneg _ hr.1.1, Int.tmod_lt_of_pos _ h0⟩, hr.2⟩


theorem site_ok (s : List Int) (p x : Int) (hs : s.length ≤ 1048576) (hp : 0 ≤ p) : ∃ r, spec_l9Site.f s p x = some r ∧ 0 ≤ r.2.2.1 := by
  unfold spec_l9Site.f
  exact bind_ok (below_ok s p x _ hs hp (by omega) (by omega)) fun r hr => bind_ok (below_ok s _ _ _ hs hr.2 (by omega) (by omega)) fun r hr => ⟨_, rfl, hr.2⟩


theorem pattern_ok (s : List Int) (p x : Int) (hs : s.length ≤ 1048576) (hp : 0 ≤ p) : ∃ r, spec_l9Pattern.f s p x = some r ∧ 0 ≤ r.2.2.1 := by
  unfold spec_l9Pattern.f
  exact bind_ok (below_ok s p x _ hs hp (by omega) (by omega)) fun r hr => bind_ok (below_ok s _ _ _ hs hr.2 (by omega) (by omega)) fun r hr => ⟨_, rfl, hr.2⟩

theorem or5 (n : Nat) (a b c d e : Int) : cmp_Or_int.f (n + 6) [a, b, c, d, e] = some (if a = 0 then (if b = 0 then (if c = 0 then (if d = 0 then e else d) else c) else b) else a) := by
  have w0 : wrap64 (0 + 1) = 1 := wr (by omega) (by omega)
  have w1 : wrap64 (1 + 1) = 2 := wr (by omega) (by omega)
  have w2 : wrap64 (2 + 1) = 3 := wr (by omega) (by omega)
  have w3 : wrap64 (3 + 1) = 4 := wr (by omega) (by omega)
  have w4 : wrap64 (4 + 1) = 5 := wr (by omega) (by omega)
  unfold cmp_Or_int.f
  simp only [cmp_Or_int.l0, w0, w1, w2, w3, w4]
  by_cases h1 : a = 0 <;> by_cases h2 : b = 0 <;> by_cases h3 : c = 0 <;> by_cases h4 : d = 0 <;> by_cases h5 : e = 0 <;> simp [h1, h2, h3, h4, h5, rd]

theorem cmp_eq (a b : Int) : cmp_Compare_int.f a b = some (if a < b then -1 else if a > b then 1 else 0) := by
  unfold cmp_Compare_int.f cmp_isNaN_int.f; simp only [Option.bind_some, bne_self_eq_false]
  by_cases h1 : a < b <;> by_cases h2 : a > b <;> simp [h1, h2]


theorem int_ok (s : List Int) (p x : Int) (l : List Int) (hs : s.length ≤ 1048576) (hp : 0 ≤ p) (h0 : 0 < l.length) (h1 : l.length ≤ 256) : ∃ r, spec_l1Int.f s p x l = some r ∧ 0 ≤ r.2.1 := by
  unfold spec_l1Int.f
  refine bind_ok (below_ok s p x _ hs hp (by omega) (by omega)) fun r hr => ?_
  rw [if_pos hr.1.1, if_pos hr.1.2]
  exact ⟨_, rfl, hr.2⟩


theorem raw_ok (s : List Int) (p x : Int) (hs : s.length ≤ 1048576) (hp : 0 ≤ p) : ∃ r, spec_l9Raw.f s p x = some r ∧ 0 ≤ r.2.1 := by
  unfold spec_l9Raw.f
  exact bind_ok (int_ok s p x _ hs hp (by decide) (by decide)) fun r hr => ⟨_, rfl, hr⟩


theorem request_ok (s : List Int) (p x : Int) (hs : s.length ≤ 1048576) (hp : 0 ≤ p) : ∃ r, spec_l13Request.f s p x = some r ∧ 0 ≤ r.2.2.2.1 := by
  unfold spec_l13Request.f
  exact bind_ok (site_ok s p x hs hp) fun r hr => bind_ok (below_ok s _ _ _ hs hr (by omega) (by omega)) fun r2 h2 => ⟨_, rfl, h2.2⟩

theorem impl_req (o s t : Int) : impl_IsRequest.f o s t = some (isReq o s t) := by
  unfold impl_IsRequest.f isReq; simp only [impl_sit, impl_in, Option.bind_some]
  cases isSit o s <;> simp


theorem l13_ok (s : List Int) (p x : Int) (hs : s.length ≤ 1048576) (hp : 0 ≤ p) : ∃ r, spec_l13Draw.f s p x = some r ∧ 0 ≤ r.2.2.2.2.2.2.2.2.1 := by
  unfold spec_l13Draw.f
  exact bind_ok (below_ok s p x _ hs hp (by omega) (by omega)) fun r1 h1 => bind_ok (below_ok s _ _ _ hs h1.2 (by omega) (by omega)) fun r2 h2 => bind_ok (pattern_ok s _ _ hs h2.2) fun r3 h3 =>
    bind_ok (below_ok s _ _ _ hs h3 (by omega) (by omega)) fun r4 h4 => bind_ok (below_ok s _ _ _ hs h4.2 (by omega) (by omega)) fun r5 h5 => if_ok (fun _ => bind_ok (site_ok s _ _ hs h5.2) fun r6 h6 => ⟨_, rfl, h6⟩) (fun _ => ⟨_, rfl, h5.2⟩)


theorem drawBefore_ok (k : Nat) (s : List Int) (hs : s.length ≤ 1048576) (hk : s.length + 200 < k) : ∃ r, spec_DrawIsBefore.f k s = some r ∧ True := by
  unfold spec_DrawIsBefore.f
  refine bind_ok (l1New_ok k s hs (by omega)) fun r hr => ?_
  obtain ⟨e1, e2⟩ := hr
  rw [e1]
  exact bind_ok (l13_ok s _ _ hs (by omega)) fun r2 h2 => bind_ok (l13_ok s _ _ hs h2) fun r3 h3 => ⟨_, rfl, trivial⟩

theorem impl_befo (n : Nat) (a0 a1 a2 a3 a4 a5 a6 a7 b0 b1 b2 b3 b4 b5 b6 b7 : Int) : impl_IsBefore.f (n + 6) a0 a1 a2 a3 a4 a5 a6 a7 b0 b1 b2 b3 b4 b5 b6 b7 = some (befo a0 a1 a5 a6 a7 b0 b1 b5 b6 b7) := by
  unfold impl_IsBefore.f impl_compareRules.f befo; simp only [cmp_eq, or5, Option.bind_some]
  rcases Int.lt_trichotomy a1 b1 with h | h | h
  · simp [show ¬ b1 < a1 by omega, show b1 > a1 by omega, show ¬ a1 = b1 by omega]
  · subst h
    rcases Int.lt_trichotomy a5 b5 with h | h | h
    · simp [h, show ¬ a5 = b5 by omega]
    · subst h
      rcases Int.lt_trichotomy a0 b0 with h | h | h
      · simp [h, show ¬ a0 = b0 by omega]
      · subst h
        rcases Int.lt_trichotomy a6 b6 with h | h | h
        · simp [h, show ¬ a6 = b6 by omega]
        · subst h
          rcases Int.lt_trichotomy a7 b7 with h | h | h
          · simp [h]
          · subst h; simp
          · simp [h, show ¬ a7 < b7 by omega]
        · simp [h, show ¬ a6 < b6 by omega, show ¬ a6 = b6 by omega]
      · simp [h, show ¬ a0 < b0 by omega, show ¬ a0 = b0 by omega]
    · simp [h, show ¬ a5 < b5 by omega, show ¬ a5 = b5 by omega]
  · simp [h, show ¬ a1 = b1 by omega]


theorem any_ok (s : List Int) (p x : Int) (hs : s.length ≤ 1048576) (hp : 0 ≤ p) : ∃ r, spec_l9Any.f s p x = some r ∧ 0 ≤ r.2.2.1 := by
  unfold spec_l9Any.f
  refine bind_ok (pattern_ok s p x hs hp) fun r hr => bind_ok (below_ok s _ _ _ hs hr (by omega) (by omega)) fun r2 hr2 => if_ok (fun _ => ?_) (fun _ => if_ok (fun _ => ?_) (fun _ => ?_))
  · exact bind_ok (raw_ok s _ _ hs hr2.2) fun r3 hr3 => ⟨_, rfl, hr3⟩
  · exact bind_ok (raw_ok s _ _ hs hr2.2) fun r3 hr3 => ⟨_, rfl, hr3⟩
  · exact ⟨_, rfl, hr2.2⟩


theorem l13any_ok (s : List Int) (p x : Int) (hs : s.length ≤ 1048576) (hp : 0 ≤ p) : ∃ r, spec_l13Any.f s p x = some r ∧ 0 ≤ r.2.2.2.2.2.2.2.2.1 := by
  unfold spec_l13Any.f
  refine bind_ok (l13_ok s p x hs hp) fun r1 h1 => bind_ok (below_ok s _ _ _ hs h1 (by omega) (by omega)) fun r2 h2 => ?_
  repeat' first
    | (refine if_ok (fun _ => ?_) (fun _ => ?_))
    | (refine bind_ok (raw_ok s _ _ hs h2.2) fun r3 h3 => ?_)
    | (refine bind_ok (int_ok s _ _ _ hs h2.2 (by decide) (by decide)) fun r3 h3 => ?_)
    | (refine bind_ok (any_ok s _ _ hs h2.2) fun r3 h3 => ?_)
    | (refine bind_ok (site_ok s _ _ hs h2.2) fun r3 h3 => ?_)
    | (refine ⟨_, rfl, ?_⟩; first | exact h2.2 | assumption)


theorem drawApplies_ok (k : Nat) (s : List Int) (hs : s.length ≤ 1048576) (hk : s.length + 200 < k) : ∃ r, spec_DrawApplies.f k s = some r ∧ True := by
  unfold spec_DrawApplies.f
  refine bind_ok (l1New_ok k s hs (by omega)) fun r hr => ?_
  obtain ⟨e1, e2⟩ := hr
  rw [e1]
  exact bind_ok (l13any_ok s _ _ hs (by omega)) fun r2 h2 => bind_ok (request_ok s _ _ hs h2) fun r3 h3 => ⟨_, rfl, trivial⟩

theorem impl_rul (n : Nat) (e p po ps s a o b : Int) : impl_IsRule.f (n + 2) e p po ps s a o b = some (isRul e p po ps s a o b) := by
  unfold impl_IsRule.f isRul; simp only [impl_in, impl_pat, Option.bind_some, impl_IsRule.j0, impl_IsRule.j1, impl_sit]
  cases inR e 1 5 <;> cases inR p 1 9 <;> cases isPat po ps <;> cases inR s 0 4 <;> simp
  by_cases h1 : a = 1
  · subst h1; simp [beq_dec]
  · by_cases h2 : a = 2
    · subst h2; simp [beq_dec]
    · by_cases h3 : a = 3
      · subst h3; simp
      · simp [h1, h2, h3]

theorem impl_mtch (a b c d : Int) : impl_MatchSite.f a b c d = some (mtch a b c d) := by
  unfold impl_MatchSite.f mtch; simp only [impl_pat, impl_sit, Option.bind_some]
  cases isPat a b <;> cases isSit c d <;> simp
  by_cases h1 : a = 0 <;> by_cases h2 : a = c <;> by_cases h3 : b = -1 <;> simp [h1, h2, h3] <;> simp [beq_dec]

theorem impl_appl (n : Nat) (e p po ps s a o b qo qs qt : Int) : impl_Applies.f (n + 2) e p po ps s a o b qo qs qt = some (appl e p po ps s a o b qo qs qt) := by
  unfold impl_Applies.f appl; simp only [impl_rul, impl_req, impl_mtch, Option.bind_some]
  cases isRul e p po ps s a o b <;> cases isReq qo qs qt <;> cases mtch po ps qo qs <;> by_cases h : s = 0 <;> simp [h, beq_dec]


theorem l13_l0 (s : List Int) (hs : s.length ≤ 1048576) : ∀ (d k : Nat) (xs : List S35) (p x : Int), d < k → xs.length + d ≤ 1000 → 0 ≤ p → ∃ r, spec_l13List.l0 k xs (d : Int) s p x = some r ∧ r.1.length ≤ xs.length + d ∧ 0 ≤ r.2.1 := by
  intro d
  induction d with
  | zero =>
    intro k xs p x hk hl hp
    obtain ⟨k, rfl⟩ : ∃ m, k = m + 1 := ⟨k - 1, by omega⟩
    simp only [spec_l13List.l0]
    rw [if_neg (by omega)]
    exact ⟨_, rfl, Nat.le_refl _, hp⟩
  | succ d ih =>
    intro k xs p x hk hl hp
    obtain ⟨k, rfl⟩ : ∃ m, k = m + 1 := ⟨k - 1, by omega⟩
    simp only [spec_l13List.l0]
    rw [if_pos (by omega)]
    refine bind_ok (l13_ok s p x hs hp) fun r hr => ?_
    rw [if_pos (by omega), wr (by omega) (by omega), show (((d + 1 : Nat) : Int) - 1) = (d : Int) by omega]
    obtain ⟨r2, e, h1, h2⟩ := ih k (xs ++ [⟨r.1, r.2.1, ⟨r.2.2.1, r.2.2.2.1⟩, r.2.2.2.2.1, r.2.2.2.2.2.1, ⟨r.2.2.2.2.2.2.1, r.2.2.2.2.2.2.2.1⟩⟩]) r.2.2.2.2.2.2.2.2.1 r.2.2.2.2.2.2.2.2.2 (by omega) (by simp; omega) hr
    simp only [List.length_append, List.length_singleton] at h1
    exact ⟨r2, e, by omega, h2⟩
theorem l13list_ok (k : Nat) (s : List Int) (p x : Int) (hs : s.length ≤ 1048576) (hk : 20 < k) (hp : 0 ≤ p) : ∃ r, spec_l13List.f k s p x = some r ∧ r.1.length ≤ 20 ∧ 0 ≤ r.2.1 := by
  unfold spec_l13List.f
  refine bind_ok (below_ok s p x _ hs hp (by omega) (by omega)) fun r hr => ?_
  obtain ⟨r2, e, h1, h2⟩ := l13_l0 s hs r.1.toNat k [] r.2.1 r.2.2 (by omega) (by simp; omega) hr.2
  rw [show ((r.1.toNat : Nat) : Int) = r.1 by omega] at e
  exact ⟨r2, e, by simp at h1; omega, h2⟩


theorem drawRules_ok (k : Nat) (s : List Int) (hs : s.length ≤ 1048576) (hk : s.length + 200 < k) : ∃ r, spec_DrawRulesOf.f k s = some r ∧ r.1.length ≤ 20 := by
  unfold spec_DrawRulesOf.f
  refine bind_ok (l1New_ok k s hs (by omega)) fun r hr => ?_
  obtain ⟨e1, e2⟩ := hr
  rw [e1]
  exact bind_ok (l13list_ok k s _ _ hs (by omega) (by omega)) fun r2 h2 => bind_ok (below_ok s _ _ _ hs h2.2 (by omega) (by omega)) fun r3 h3 => ⟨_, rfl, h2.1⟩

theorem impl_RulesOf_eq (k : Nat) (xs : List S35) (x : Int) (hn : xs.length ≤ 1048576) (hk : xs.length < k) : impl_RulesOf.f k xs x = some (xs.filter fun r => decide (r.f0 = x)) := by
  have L := loop_run 0 (fun k (s : List S35) i => impl_RulesOf.l0 k x s xs (xs.length : Int) i) xs.length (fun s i => s ++ (xs.drop i).filter fun r => decide (r.f0 = x)) (fun s i => s.length ≤ i) (by omega)
    (fun k s i hm hi hI ih => by
      have hd := drop_at xs i hi
      have hr := rdRule_i xs i hi
      generalize xs[i] = r at hd hr
      simp only [impl_RulesOf.l0]
      rw [if_pos (by omega), if_pos (by omega), if_pos (by omega)]
      simp only [hr]
      rw [hd]
      by_cases hp : (decide (r.f0 = x)) = true
      · have hp' := hp
        rw [if_pos (of_decide_eq_true hp)]
        rw [if_pos (by omega), ih _ (by simp; omega)]
        simp only [List.filter_cons, hp', ↓reduceIte, List.append_assoc]
        rfl
      · have hp' := hp
        rw [if_neg (fun h => hp (decide_eq_true h))]
        rw [ih _ (by omega)]
        simp only [List.filter_cons, hp', ↓reduceIte, Bool.false_eq_true])
    (fun k s hm hI => by
      simp only [impl_RulesOf.l0]
      rw [if_neg nlt, List.drop_of_length_le (Nat.le_refl _)]
      simp) k hk [] (by simp)
  try dsimp only at L
  unfold impl_RulesOf.f
  rw [L]
  simp


theorem befo_iff (ae ap aa ao ab be bp ba bo bb : Int) : befo ae ap aa ao ab be bp ba bo bb = true ↔ (bp < ap ∨ (ap = bp ∧ (aa < ba ∨ (aa = ba ∧ (ae < be ∨ (ae = be ∧ (ao < bo ∨ (ao = bo ∧ ab < bb)))))))) := by
  unfold befo
  by_cases h1 : ap = bp
  · rw [if_pos h1]
    by_cases h2 : aa = ba
    · rw [if_pos h2]
      by_cases h3 : ae = be
      · rw [if_pos h3]
        by_cases h4 : ao = bo
        · rw [if_pos h4, decide_eq_true_eq]; omega
        · rw [if_neg h4, decide_eq_true_eq]; omega
      · rw [if_neg h3, decide_eq_true_eq]; omega
    · rw [if_neg h2, decide_eq_true_eq]; omega
  · rw [if_neg h1, decide_eq_true_eq]; omega
theorem befo_irr (ae ap aa ao ab : Int) : befo ae ap aa ao ab ae ap aa ao ab = false := by
  rw [Bool.eq_false_iff, Ne, befo_iff]; omega
theorem befo_asym {ae ap aa ao ab be bp ba bo bb : Int} (h : befo ae ap aa ao ab be bp ba bo bb = true) : befo be bp ba bo bb ae ap aa ao ab = false := by
  rw [befo_iff] at h
  rw [Bool.eq_false_iff, Ne, befo_iff]; omega
theorem befo_tri {ae ap aa ao ab be bp ba bo bb : Int} (h : befo ae ap aa ao ab be bp ba bo bb = false) (h' : befo be bp ba bo bb ae ap aa ao ab = false) : ap = bp ∧ aa = ba ∧ ae = be ∧ ao = bo ∧ ab = bb := by
  rw [Bool.eq_false_iff, Ne, befo_iff] at h h'; omega
theorem befo_trans {ae ap aa ao ab be bp ba bo bb ce cp ca co cb : Int} (h : befo ae ap aa ao ab be bp ba bo bb = true) (h' : befo be bp ba bo bb ce cp ca co cb = true) : befo ae ap aa ao ab ce cp ca co cb = true := by
  rw [befo_iff] at h h' ⊢; omega

theorem rules_l0 (x : Int) (xs : List S35) (hx : xs.length ≤ 1000) (hall : ∀ r ∈ xs, r.f0 = x) (a b c d e f g h : Int) :
    ∀ (n k i : Nat), i + n = xs.length → n + 10 < k → laws_FnRules.l0 k x xs (i : Int) a b c d e f g h = some true := by
  intro n
  induction n with
  | zero =>
    intro k i hi hk
    obtain ⟨k, rfl⟩ : ∃ m, k = m + 3 := ⟨k - 3, by omega⟩
    simp only [laws_FnRules.l0]
    rw [if_neg (by omega), impl_rul, Option.bind_some]
    cases hr : isRul a b c d e f g h
    · rfl
    · rw [if_pos rfl]
      have hf : f = 1 ∨ f = 2 ∨ f = 3 := by
        unfold isRul at hr
        simp only [Bool.and_eq_true, Bool.or_eq_true, decide_eq_true_eq] at hr
        omega
      unfold impl_ActionName.f
      rcases hf with rfl | rfl | rfl
      · rw [if_pos rfl, Option.bind_some]; decide +kernel
      · rw [if_neg (by decide), if_pos rfl, Option.bind_some]; decide +kernel
      · rw [if_neg (by decide), if_neg (by decide), if_pos rfl, Option.bind_some]; decide +kernel
  | succ n ih =>
    intro k i hi hk
    obtain ⟨k, rfl⟩ : ∃ m, k = m + 1 := ⟨k - 1, by omega⟩
    simp only [laws_FnRules.l0]
    rw [if_pos (by omega), if_pos (by omega), rdRule_i xs i (by omega), if_pos (hall _ (List.getElem_mem _)), wr (by omega) (by omega), show (i : Int) + 1 = ((i + 1 : Nat) : Int) by omega]
    exact ih k (i + 1) (by omega) (by omega)
theorem rules_j2 (k : Nat) (s : List Int) (a b c d e f g h : Int) (hs : s.length ≤ 1048576) (hk : s.length + 300 < k) : laws_FnRules.j2 k s false a b c d e f g h = some true := by
  obtain ⟨k, rfl⟩ : ∃ m, k = m + 1 := ⟨k - 1, by omega⟩
  simp only [laws_FnRules.j2]
  rw [if_neg (by decide)]
  obtain ⟨⟨xs, x⟩, e1, hl⟩ := drawRules_ok k s hs (by omega)
  rw [e1, Option.bind_some]
  dsimp only at hl ⊢
  have hf := List.length_filter_le (fun r : S35 => decide (r.f0 = x)) xs
  rw [impl_RulesOf_eq k xs x (by omega) (by omega), Option.bind_some]
  exact rules_l0 x _ (by omega) (fun r hr => of_decide_eq_true (List.mem_filter.1 hr).2) a b c d e f g h (xs.filter fun r => decide (r.f0 = x)).length k 0 (by omega) (by omega)
theorem rules_j1 (k : Nat) (s : List Int) (a0 a1 a2 a3 a4 a5 a6 a7 b0 b1 b2 b3 b4 b5 b6 b7 c0 c1 c2 c3 c4 c5 c6 c7 : Int) (hs : s.length ≤ 1048576) (hk : s.length + 400 < k) :
    laws_FnRules.j1 k s false a0 a1 a2 a3 a4 a5 a6 a7 b0 b1 b2 b3 b4 b5 b6 b7 c0 c1 c2 c3 c4 c5 c6 c7 = some true := by
  obtain ⟨k, rfl⟩ : ∃ m, k = m + 6 + 1 := ⟨k - 7, by omega⟩
  simp only [laws_FnRules.j1]
  rw [if_neg (by decide), impl_befo, Option.bind_some, impl_befo, Option.bind_some, impl_befo, Option.bind_some]
  have hj := rules_j2 (k + 6) s c0 c1 c2 c3 c4 c5 c6 c7 hs (by omega)
  cases h1 : befo a0 a1 a5 a6 a7 b0 b1 b5 b6 b7
  · rw [if_neg (by decide)]; exact hj
  · rw [if_pos rfl]
    cases h2 : befo b0 b1 b5 b6 b7 c0 c1 c5 c6 c7
    · rw [if_neg (by decide)]; exact hj
    · rw [if_pos rfl, befo_trans h1 h2]; exact hj
theorem rules_j0 (k : Nat) (s : List Int) (a0 a1 a2 a3 a4 a5 a6 a7 b0 b1 b2 b3 b4 b5 b6 b7 : Int) (hs : s.length ≤ 1048576) (hk : s.length + 500 < k) :
    laws_FnRules.j0 k s false a0 a1 a2 a3 a4 a5 a6 a7 b0 b1 b2 b3 b4 b5 b6 b7 = some true := by
  obtain ⟨k, rfl⟩ : ∃ m, k = m + 2 + 1 := ⟨k - 3, by omega⟩
  simp only [laws_FnRules.j0]
  rw [if_neg (by decide)]
  obtain ⟨⟨c0, c1, c2, c3, c4, c5, c6, c7, qo, qs, qt⟩, e1, _⟩ := drawApplies_ok (k + 2) s hs (by omega)
  rw [e1, Option.bind_some]
  dsimp only
  rw [impl_appl, Option.bind_some, impl_rul, Option.bind_some, impl_req, Option.bind_some, impl_mtch, Option.bind_some]
  have hj := fun c0 c1 c2 c3 c4 c5 c6 c7 => rules_j1 (k + 2) s a0 a1 a2 a3 a4 a5 a6 a7 b0 b1 b2 b3 b4 b5 b6 b7 c0 c1 c2 c3 c4 c5 c6 c7 hs (by omega)
  cases h : appl c0 c1 c2 c3 c4 c5 c6 c7 qo qs qt
  · rw [if_neg (by decide)]; exact hj _ _ _ _ _ _ _ _
  · unfold appl at h
    simp only [Bool.and_eq_true] at h
    rw [if_pos rfl, h.1, if_pos rfl, h.2.1, if_pos rfl, h.2.2.1]
    exact hj _ _ _ _ _ _ _ _
theorem FnRules : laws_FnRules.Pure := by
  intro l0 _ _ _
  obtain ⟨K, hK⟩ : ∃ K, K = l0.length + 5000 := ⟨_, rfl⟩
  refine ⟨K + 6, ?_⟩
  unfold laws_FnRules.f
  simp only [laws_big.f, Option.bind_some]
  by_cases hb : (l0.length : Int) > 1048576
  · rw [if_pos (decide_eq_true hb)]
  · rw [if_neg (by rw [decide_eq_false hb]; decide)]
    obtain ⟨⟨a0, a1, a2, a3, a4, a5, a6, a7, b0, b1, b2, b3, b4, b5, b6, b7⟩, e1, _⟩ := drawBefore_ok (K + 6) l0 (by omega) (by omega)
    rw [e1, Option.bind_some]
    dsimp only
    have hj := rules_j0 (K + 6) l0 a0 a1 a2 a3 a4 a5 a6 a7 b0 b1 b2 b3 b4 b5 b6 b7 (by omega) (by omega)
    simp only [impl_befo, Option.bind_some, befo_irr, Bool.false_eq_true, if_false]
    cases h1 : befo a0 a1 a5 a6 a7 b0 b1 b5 b6 b7
    · simp only [Bool.false_eq_true, if_false]
      cases h2 : befo b0 b1 b5 b6 b7 a0 a1 a5 a6 a7
      · obtain ⟨q1, q2, q3, q4, q5⟩ := befo_tri h1 h2
        have hsame : laws_sameRule.f a0 a1 a2 a3 a4 a5 a6 a7 b0 b1 b2 b3 b4 b5 b6 b7 = some true := by
          unfold laws_sameRule.f
          rw [if_pos q1, if_pos q2, if_pos q3, q4, q5]; simp
        rw [hsame]
        simpa using hj
      · simpa using hj
    · rw [befo_asym h1]
      simpa using hj

end Go.Proofs.Ytacgichgadoddaa.Pure
