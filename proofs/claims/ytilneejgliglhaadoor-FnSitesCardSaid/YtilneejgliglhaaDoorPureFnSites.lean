/- The printed function of the law FnSites answers true, for all arguments, under no condition but that each whole number is one of its kind and that each slice has a length that fits. -/
import Derived.Test.YtilneejgliglhaaDoorQSx35
namespace Go.Proofs.YtilneejgliglhaaDoor.Pure
open Go.RowKit Go.Proofs.YtilneejgliglhaaDoor.QS Go.Proofs.YtilneejgliglhaaDoorW.PrintWords Go.Proofs.YtilneejgliglhaaDoorW.PrintLast
set_option linter.unusedVariables false
set_option linter.unusedSimpArgs false
theorem wr {i : Int} (h0 : -9223372036854775808 ≤ i) (h1 : i ≤ 9223372036854775807) : wrap64 i = i := by unfold wrap64; omega
theorem beq_dec (a b : Int) : (a == b) = decide (a = b) := by by_cases h : a = b <;> simp [h]
theorem and_if (p : Prop) [Decidable p] (c : Bool) : (if p then some c else some false) = some (decide p && c) := by
  by_cases h : p <;> simp [h]
theorem or_if (p : Prop) [Decidable p] (c : Bool) : (if p then some true else some c) = some (decide p || c) := by
  by_cases h : p <;> simp [h]
def inR (a b c : Int) : Bool := decide (b ≤ a) && decide (a ≤ c)
def isPat (o s : Int) : Bool := inR o 0 9 && inR s (-1) 9
def isSit (o s : Int) : Bool := inR o 1 9 && inR s 0 9
def mtch (po ps o s : Int) : Bool := isPat po ps && (isSit o s && ((decide (po = 0) || decide (po = o)) && (decide (ps = -1) || decide (ps = s))))
def narr (po ps qo qs : Int) : Bool := isPat po ps && (isPat qo qs && ((decide (qo = 0) || decide (po = qo)) && (decide (qs = -1) || decide (ps = qs))))
def isGra (e po ps k f u : Int) : Bool := inR e 1 5 && (isPat po ps && (inR k 1 4 && (decide (0 ≤ f) && (decide (f ≤ u) && decide (u ≤ 10000)))))
def isLim (e po ps k : Int) : Bool := inR e 0 5 && (isPat po ps && inR k 0 4)
def covr (e po ps k f u : Int) (cl : Bool) (ext o s kind tick : Int) (ck : Bool) : Bool :=
  isGra e po ps k f u && (decide (e = ext) && (decide (k = kind) && (mtch po ps o s && (inR tick f u && (ck || !cl)))))
def isRul (e p po ps s a o b : Int) : Bool :=
  inR e 1 5 && (inR p 1 9 && (isPat po ps && (inR s 0 4 && ((decide (a = 1) || decide (a = 2)) && (decide (o = 0) && decide (b = 0)) || decide (a = 3) && isSit o b))))
def isReq (o s t : Int) : Bool := isSit o s && inR t 1 4
def appl (e p po ps s a o b qo qs qt : Int) : Bool := isRul e p po ps s a o b && (isReq qo qs qt && (mtch po ps qo qs && (decide (s = 0) || decide (s = qt))))
def isLen (e po ps k f u : Int) (cl : Bool) : Bool := isGra e po ps k f u && (decide (po ≠ 0) && (decide (ps ≠ -1) && ((decide (k = 1) || decide (k = 2)) && (decide (u = f + 5) && !cl))))
def isLab (x : Int) : Bool := inR x 0 1022 && decide (Int.tmod x 2 = 0)
def befo (ae ap aa ao ab be bp ba bo bb : Int) : Bool :=
  if ap = bp then (if aa = ba then (if ae = be then (if ao = bo then decide (ab < bb) else decide (ao < bo)) else decide (ae < be)) else decide (aa < ba)) else decide (bp < ap)
def within (e po ps k f u : Int) (cl : Bool) (e' po' ps' k' f' u' : Int) (cl' : Bool) : Bool :=
  isGra e po ps k f u && (isGra e' po' ps' k' f' u' && (decide (e = e') && (decide (k = k') && (narr po ps po' ps' && (decide (f' ≤ f) && (decide (u ≤ u') && (cl || !cl')))))))
theorem take_set1 {α : Type} (s : List α) (i : Nat) (v : α) (h : i < s.length) : (s.set i v).take (i + 1) = s.take i ++ [v] := by
  rw [List.take_succ_eq_append_getElem (by simpa using h), List.take_set, List.set_eq_of_length_le (by simp; omega)]
  simp
theorem loop_up {σ ρ : Type} (g : Nat → σ → Int → Option ρ) (n : Nat) (out : σ → Nat → ρ) (I : σ → Nat → Prop) (hn : n ≤ 9223372036854775806)
    (hstep : ∀ (k : Nat) (s : σ) (i : Nat), i < n → I s i → (∀ s', I s' (i + 1) → g k s' (wrap64 ((i : Int) + 1)) = some (out s' (i + 1))) → g (k + 1) s (i : Int) = some (out s i))
    (hend : ∀ (k : Nat) (s : σ), I s n → g (k + 1) s (n : Int) = some (out s n)) :
    ∀ (d k : Nat) (s : σ) (i : Nat), i + d = n → d < k → I s i → g k s (i : Int) = some (out s i) := by
  intro d
  induction d with
  | zero =>
    intro k s i hi hk hI
    obtain ⟨k, rfl⟩ : ∃ m, k = m + 1 := ⟨k - 1, by omega⟩
    obtain rfl : i = n := by omega
    exact hend k s hI
  | succ d ih =>
    intro k s i hi hk hI
    obtain ⟨k, rfl⟩ : ∃ m, k = m + 1 := ⟨k - 1, by omega⟩
    refine hstep k s i (by omega) hI fun s' hI' => ?_
    have := ih k s' (i + 1) (by omega) (by omega) hI'
    rw [wr (by omega) (by omega)]
    exact_mod_cast this
theorem loop_from {σ ρ : Type} {g : Nat → σ → Int → Option ρ} {n : Nat} {out : σ → Nat → ρ} {I : σ → Nat → Prop} (h : ∀ (d k : Nat) (s : σ) (i : Nat), i + d = n → d < k → I s i → g k s (i : Int) = some (out s i))
    (k : Nat) (hk : n < k) (s : σ) (hI : I s 0) : g k s 0 = some (out s 0) := by
  have := h n k s 0 (by omega) hk hI
  exact_mod_cast this
theorem drop_at {α : Type} (xs : List α) (i : Nat) (h : i < xs.length) : xs.drop i = xs[i] :: xs.drop (i + 1) := List.drop_eq_getElem_cons h

theorem nlt {n : Nat} : ¬ (n : Int) < (n : Int) := by omega
/-- where a list is copied element by element into a made one -/
theorem rd_at {α : Type} (z : α) (xs : List α) (i : Nat) (h : i < xs.length) : xs.getD (i : Int).toNat z = xs[i] := by simp [h]

theorem loop_upm {σ ρ : Type} (m : Nat) (g : Nat → σ → Int → Option ρ) (n : Nat) (out : σ → Nat → ρ) (I : σ → Nat → Prop) (hn : n ≤ 9223372036854775806)
    (hstep : ∀ (k : Nat) (s : σ) (i : Nat), m ≤ k → i < n → I s i → (∀ s', I s' (i + 1) → g k s' (wrap64 ((i : Int) + 1)) = some (out s' (i + 1))) → g (k + 1) s (i : Int) = some (out s i))
    (hend : ∀ (k : Nat) (s : σ), m ≤ k → I s n → g (k + 1) s (n : Int) = some (out s n)) :
    ∀ (d k : Nat) (s : σ) (i : Nat), i + d = n → d + m < k → I s i → g k s (i : Int) = some (out s i) := by
  intro d
  induction d with
  | zero =>
    intro k s i hi hk hI
    obtain ⟨k, rfl⟩ : ∃ m, k = m + 1 := ⟨k - 1, by omega⟩
    obtain rfl : i = n := by omega
    exact hend k s (by omega) hI
  | succ d ih =>
    intro k s i hi hk hI
    obtain ⟨k, rfl⟩ : ∃ m, k = m + 1 := ⟨k - 1, by omega⟩
    refine hstep k s i (by omega) (by omega) hI fun s' hI' => ?_
    have := ih k s' (i + 1) (by omega) (by omega) hI'
    rw [wr (by omega) (by omega)]
    exact_mod_cast this
theorem loop_fromm {σ ρ : Type} {m : Nat} {g : Nat → σ → Int → Option ρ} {n : Nat} {out : σ → Nat → ρ} {I : σ → Nat → Prop} (h : ∀ (d k : Nat) (s : σ) (i : Nat), i + d = n → d + m < k → I s i → g k s (i : Int) = some (out s i))
    (k : Nat) (hk : n + m < k) (s : σ) (hI : I s 0) : g k s 0 = some (out s 0) := by
  have := h n k s 0 (by omega) hk hI
  exact_mod_cast this
theorem loop_run {σ ρ : Type} (m : Nat) (g : Nat → σ → Int → Option ρ) (n : Nat) (out : σ → Nat → ρ) (I : σ → Nat → Prop) (hn : n ≤ 9223372036854775806)
    (hstep : ∀ (k : Nat) (s : σ) (i : Nat), m ≤ k → i < n → I s i → (∀ s', I s' (i + 1) → g k s' (wrap64 ((i : Int) + 1)) = some (out s' (i + 1))) → g (k + 1) s (i : Int) = some (out s i))
    (hend : ∀ (k : Nat) (s : σ), m ≤ k → I s n → g (k + 1) s (n : Int) = some (out s n)) (k : Nat) (hk : n + m < k) (s : σ) (hI : I s 0) : g k s 0 = some (out s 0) :=
  loop_fromm (loop_upm m g n out I hn hstep hend) k hk s hI
theorem if_and2 {α : Type} (a : Bool) (p : Prop) [Decidable p] (x y : α) : (if a = true then (if p then x else y) else y) = if (a && decide p) = true then x else y := by
  cases a <;> by_cases h : p <;> simp [h]

theorem if_nand {α : Type} (a b : Bool) (x y : α) : (if a = true then (if b = true then y else x) else x) = if (!(a && b)) = true then x else y := by
  cases a <;> cases b <;> simp

def meetM (po ps qo qs : Int) : Int × Int × Bool :=
  let o := if qo = 0 then po else qo
  let s := if qs = -1 then ps else qs
  if (narr o s po ps && narr o s qo qs) = true then (o, s, true) else (0, 0, false)
def ngM (e po ps k f u : Int) (c : Bool) (qo qs : Int) : Int × Int × Int × Int × Int × Int × Bool × Bool :=
  if (isGra e po ps k f u && (meetM po ps qo qs).2.2) = true then (e, (meetM po ps qo qs).1, (meetM po ps qo qs).2.1, k, f, u, c, true) else (0, 0, 0, 0, 0, 0, false, false)

theorem impl_in (a b c : Int) : impl_InRange.f a b c = some (inR a b c) := by
  unfold impl_InRange.f inR; exact and_if _ _

theorem impl_pat (a b : Int) : impl_IsPattern.f a b = some (isPat a b) := by
  unfold impl_IsPattern.f isPat; simp only [impl_in, Option.bind_some]; cases inR a 0 9 <;> simp


theorem bind_ok {α β : Type} {o : Option α} {f : α → Option β} {Q : α → Prop} {R : β → Prop} (h : ∃ r, o = some r ∧ Q r) (hf : ∀ r, Q r → ∃ y, f r = some y ∧ R y) : ∃ y, o.bind f = some y ∧ R y := by
  obtain ⟨r, rfl, q⟩ := h; exact hf r q
theorem if_ok {β : Type} {p : Prop} [Decidable p] {a b : Option β} {R : β → Prop} (h : p → ∃ y, a = some y ∧ R y) (h' : ¬ p → ∃ y, b = some y ∧ R y) : ∃ y, (if p then a else b) = some y ∧ R y := by
  by_cases c : p
  · rw [if_pos c]; exact h c
  · rw [if_neg c]; exact h' c
theorem and255 (a : Int) : 0 ≤ Go.bits .and .i64 a 255 ∧ Go.bits .and .i64 a 255 ≤ 255 := by
  have h : ((BitVec.ofInt (IntKind.bits .i64) a) &&& (BitVec.ofInt (IntKind.bits .i64) 255)).toNat ≤ 255 := by
    rw [BitVec.toNat_and]; exact Nat.le_trans Nat.and_le_right (by decide)
  show 0 ≤ IntKind.wrap .i64 _ ∧ IntKind.wrap .i64 _ ≤ 255
  generalize ((BitVec.ofInt (IntKind.bits .i64) a) &&& (BitVec.ofInt (IntKind.bits .i64) 255)).toNat = n at h
  have e : IntKind.wrap .i64 (n : Int) = (n : Int) := by rw [i64_w]; exact wr (i := (n : Int)) (by omega) (by omega)
  rw [e]; omega

theorem new_ok (s : List Int) (hs : s.length ≤ 1048576) : ∀ (d k : Nat) (y : Int) (i : Nat), i + d = s.length → d < k → ∃ r, spec_l1New.l0 k s y (i : Int) = some r ∧ r.1 = s ∧ r.2.1 = 0 := by
  intro d
  induction d with
  | zero =>
    intro k y i hi hk
    obtain ⟨k, rfl⟩ : ∃ m, k = m + 1 := ⟨k - 1, by omega⟩
    simp only [spec_l1New.l0]
    rw [if_neg (by omega)]
    exact ⟨_, rfl, rfl, rfl⟩
  | succ d ih =>
    intro k y i hi hk
    obtain ⟨k, rfl⟩ : ∃ m, k = m + 1 := ⟨k - 1, by omega⟩
    simp only [spec_l1New.l0]
    rw [if_pos (by omega)]
    refine if_ok (fun _ => ?_) (fun _ => ⟨_, rfl, rfl, rfl⟩)
    rw [if_pos (by omega), wr (i := (i : Int) + 1) (by omega) (by omega)]
    exact ih k _ (i + 1) (by omega) (by omega)
theorem l1New_ok (k : Nat) (s : List Int) (hs : s.length ≤ 1048576) (hk : s.length < k) : ∃ r, spec_l1New.f k s = some r ∧ r.1 = s ∧ r.2.1 = 0 := by
  unfold spec_l1New.f
  exact new_ok s hs s.length k _ 0 (by omega) hk


theorem byte_ok (s : List Int) (p x : Int) (hs : s.length ≤ 1048576) (hp : 0 ≤ p) : ∃ r, spec_l1Byte.f s p x = some r ∧ (0 ≤ r.1 ∧ r.1 ≤ 255) ∧ 0 ≤ r.2.1 := by
  unfold spec_l1Byte.f
  refine if_ok (fun h => ?_) (fun _ => ⟨_, rfl, and255 _, hp⟩)
  rw [if_pos hp, wr (i := p + 1) (by omega) (by omega)]
  exact ⟨_, rfl, and255 _, by show (0 : Int) ≤ p + 1; omega⟩


theorem below_ok (s : List Int) (p x n : Int) (hs : s.length ≤ 1048576) (hp : 0 ≤ p) (h0 : 0 < n) (h1 : n ≤ 256) : ∃ r, spec_l1Below.f s p x n = some r ∧ (0 ≤ r.1 ∧ r.1 < n) ∧ 0 ≤ r.2.1 := by
  unfold spec_l1Below.f
  rw [if_neg (by omega), if_pos h1]
  refine bind_ok (byte_ok s p x hs hp) fun r hr => ?_
  rw [if_neg (by omega)]
  exact ⟨_, rfl, ⟨Int.tmod_nonneg _ hr.1.1, Int.tmod_lt_of_pos _ h0⟩, hr.2⟩


theorem pattern_ok (s : List Int) (p x : Int) (hs : s.length ≤ 1048576) (hp : 0 ≤ p) : ∃ r, spec_l9Pattern.f s p x = some r ∧ 0 ≤ r.2.2.1 := by
  unfold spec_l9Pattern.f
  exact bind_ok (below_ok s p x _ hs hp (by omega) (by omega)) fun r hr => bind_ok (below_ok s _ _ _ hs hr.2 (by omega) (by omega)) fun r hr => ⟨_, rfl, hr.2⟩


theorem int_ok (s : List Int) (p x : Int) (l : List Int) (hs : s.length ≤ 1048576) (hp : 0 ≤ p) (h0 : 0 < l.length) (h1 : l.length ≤ 256) : ∃ r, spec_l1Int.f s p x l = some r ∧ 0 ≤ r.2.1 := by
  unfold spec_l1Int.f
  refine bind_ok (below_ok s p x _ hs hp (by omega) (by omega)) fun r hr => ?_
  rw [if_pos hr.1.1, if_pos hr.1.2]
  exact ⟨_, rfl, hr.2⟩


theorem raw_ok (s : List Int) (p x : Int) (hs : s.length ≤ 1048576) (hp : 0 ≤ p) : ∃ r, spec_l9Raw.f s p x = some r ∧ 0 ≤ r.2.1 := by
  unfold spec_l9Raw.f
  exact bind_ok (int_ok s p x _ hs hp (by decide) (by decide)) fun r hr => ⟨_, rfl, hr⟩

theorem spec_in (a b c : Int) : spec_l1In.f a b c = some (inR a b c) := by
  unfold spec_l1In.f inR; exact and_if _ _

theorem spec_pat (a b : Int) : spec_IsPattern.f a b = some (isPat a b) := by
  unfold spec_IsPattern.f isPat; simp only [spec_in, Option.bind_some]; cases inR a 0 9 <;> simp


theorem impl_sit (a b : Int) : impl_IsSite.f a b = some (isSit a b) := by
  unfold impl_IsSite.f isSit; simp only [impl_in, Option.bind_some]; cases inR a 1 9 <;> simp


theorem any_ok (s : List Int) (p x : Int) (hs : s.length ≤ 1048576) (hp : 0 ≤ p) : ∃ r, spec_l9Any.f s p x = some r ∧ 0 ≤ r.2.2.1 := by
  unfold spec_l9Any.f
  refine bind_ok (pattern_ok s p x hs hp) fun r hr => bind_ok (below_ok s _ _ _ hs hr (by omega) (by omega)) fun r2 hr2 => if_ok (fun _ => ?_) (fun _ => if_ok (fun _ => ?_) (fun _ => ?_))
  · exact bind_ok (raw_ok s _ _ hs hr2.2) fun r3 hr3 => ⟨_, rfl, hr3⟩
  · exact bind_ok (raw_ok s _ _ hs hr2.2) fun r3 hr3 => ⟨_, rfl, hr3⟩
  · exact ⟨_, rfl, hr2.2⟩


theorem drawNarrower_ok (k : Nat) (s : List Int) (hs : s.length ≤ 1048576) (hk : s.length + 200 < k) : ∃ r, spec_DrawIsNarrower.f k s = some r ∧ True := by
  unfold spec_DrawIsNarrower.f
  refine bind_ok (l1New_ok k s hs (by omega)) fun r hr => ?_
  obtain ⟨e1, e2⟩ := hr
  rw [e1]
  exact bind_ok (any_ok s _ _ hs (by omega)) fun r2 h2 => bind_ok (any_ok s _ _ hs h2) fun r3 h3 => ⟨_, rfl, trivial⟩


theorem drawMeet_ok (k : Nat) (s : List Int) (hs : s.length ≤ 1048576) (hk : s.length + 200 < k) : ∃ r, spec_DrawMeetPatterns.f k s = some r ∧ True := by
  unfold spec_DrawMeetPatterns.f
  exact bind_ok (drawNarrower_ok k s hs hk) fun r hr => ⟨_, rfl, trivial⟩


theorem impl_narr (a b c d : Int) : impl_IsNarrower.f a b c d = some (narr a b c d) := by
  unfold impl_IsNarrower.f narr; simp only [impl_pat, Option.bind_some]
  cases isPat a b <;> cases isPat c d <;> simp
  by_cases h1 : c = 0 <;> by_cases h2 : a = c <;> by_cases h3 : d = -1 <;> simp [h1, h2, h3] <;> simp [beq_dec]


theorem impl_meet (n : Nat) (a b c d : Int) : impl_MeetPatterns.f (n + 2) a b c d = some (meetM a b c d) := by
  unfold impl_MeetPatterns.f meetM
  simp only [impl_MeetPatterns.j0, impl_MeetPatterns.j1, impl_narr, impl_pat, Option.bind_some]
  cases hp : isPat a b
  · simp [narr, hp]
  · cases hq : isPat c d
    · simp [narr, hq]
    · simp only [if_true, Bool.not_true, Bool.false_eq_true, if_false]
      have hp' := hp
      have hq' := hq
      simp only [isPat, inR, Bool.and_eq_true, decide_eq_true_eq] at hp' hq'
      by_cases h1 : a = 0 <;> by_cases h2 : b = -1 <;> by_cases h3 : c = 0 <;> by_cases h4 : d = -1 <;> by_cases h5 : a = c <;> by_cases h6 : b = d <;>
        simp_all [narr, isPat, inR] <;> omega


theorem impl_mtch (a b c d : Int) : impl_MatchSite.f a b c d = some (mtch a b c d) := by
  unfold impl_MatchSite.f mtch; simp only [impl_pat, impl_sit, Option.bind_some]
  cases isPat a b <;> cases isSit c d <;> simp
  by_cases h1 : a = 0 <;> by_cases h2 : a = c <;> by_cases h3 : b = -1 <;> simp [h1, h2, h3] <;> simp [beq_dec]


theorem ptext_all : ∀ (o : Fin 10) (s : Fin 11), ((impl_PatternText.f (o.val : Int) ((s.val : Int) - 1)).map fun t => (t.toList != ([] : List UInt8))) = some true := by decide +kernel
theorem ptext_is (a b : Int) : ∃ t, impl_PatternText.f a b = some t ∧ (t.toList != ([] : List UInt8)) = isPat a b := by
  cases h : isPat a b
  · refine ⟨⟨#[]⟩, ?_, by decide +kernel⟩
    unfold impl_PatternText.f
    simp only [impl_pat, Option.bind_some, h, Bool.false_eq_true, if_false]
  · unfold isPat inR at h
    simp only [Bool.and_eq_true, decide_eq_true_eq] at h
    have := ptext_all ⟨a.toNat, by omega⟩ ⟨(b + 1).toNat, by omega⟩
    rw [show (((⟨a.toNat, by omega⟩ : Fin 10).val : Nat) : Int) = a by show ((a.toNat : Nat) : Int) = a; omega, show ((((⟨(b + 1).toNat, by omega⟩ : Fin 11).val : Nat) : Int) - 1) = b by show (((b + 1).toNat : Nat) : Int) - 1 = b; omega] at this
    cases ht : impl_PatternText.f a b with
    | none => rw [ht] at this; simp at this
    | some t => rw [ht] at this; exact ⟨t, rfl, by simpa using this⟩
theorem mtch_iff (po ps o s : Int) : mtch po ps o s = true ↔ ((0 ≤ po ∧ po ≤ 9) ∧ (-1 ≤ ps ∧ ps ≤ 9)) ∧ ((1 ≤ o ∧ o ≤ 9) ∧ (0 ≤ s ∧ s ≤ 9)) ∧ (po = 0 ∨ po = o) ∧ (ps = -1 ∨ ps = s) := by
  unfold mtch isPat isSit inR
  simp only [Bool.and_eq_true, Bool.or_eq_true, decide_eq_true_eq]
theorem narr_iff (po ps qo qs : Int) : narr po ps qo qs = true ↔ ((0 ≤ po ∧ po ≤ 9) ∧ (-1 ≤ ps ∧ ps ≤ 9)) ∧ ((0 ≤ qo ∧ qo ≤ 9) ∧ (-1 ≤ qs ∧ qs ≤ 9)) ∧ (qo = 0 ∨ po = qo) ∧ (qs = -1 ∨ ps = qs) := by
  unfold narr isPat inR
  simp only [Bool.and_eq_true, Bool.or_eq_true, decide_eq_true_eq]
theorem meet_is (po ps qo qs : Int) : ∃ mo ms, (mo = if qo = 0 then po else qo) ∧ (ms = if qs = -1 then ps else qs) ∧ (((meetM po ps qo qs).2.2 = true ∧ (meetM po ps qo qs).1 = mo ∧ (meetM po ps qo qs).2.1 = ms ∧ narr mo ms po ps = true ∧ narr mo ms qo qs = true) ∨ ((meetM po ps qo qs).2.2 = false ∧ (narr mo ms po ps && narr mo ms qo qs) = false)) := by
  refine ⟨_, _, rfl, rfl, ?_⟩
  unfold meetM
  dsimp only
  generalize (if qo = 0 then po else qo) = mo
  generalize (if qs = -1 then ps else qs) = ms
  cases h : (narr mo ms po ps && narr mo ms qo qs)
  · right; exact ⟨rfl, rfl⟩
  · left
    rw [Bool.and_eq_true] at h
    exact ⟨rfl, rfl, rfl, h.1, h.2⟩
theorem both_is (po ps qo qs o s : Int) : (mtch po ps o s && mtch qo qs o s) = ((meetM po ps qo qs).2.2 && mtch (meetM po ps qo qs).1 (meetM po ps qo qs).2.1 o s) := by
  obtain ⟨mo, ms, e1, e2, h⟩ := meet_is po ps qo qs
  rw [Bool.eq_iff_iff, Bool.and_eq_true, Bool.and_eq_true]
  rcases h with ⟨h1, h2, h3, h4, h5⟩ | ⟨h1, h2⟩
  · rw [h1, h2, h3, mtch_iff, mtch_iff, mtch_iff]
    simp only [true_and]
    rw [narr_iff] at h4 h5
    by_cases c1 : qo = 0 <;> by_cases c2 : qs = -1 <;> simp only [c1, c2, if_true, if_false] at e1 e2 <;> subst e1 <;> subst e2 <;> omega
  · rw [h1, mtch_iff, mtch_iff]
    rw [Bool.eq_false_iff, Ne, Bool.and_eq_true, narr_iff, narr_iff] at h2
    constructor
    · intro h
      exfalso
      apply h2
      by_cases c1 : qo = 0 <;> by_cases c2 : qs = -1 <;> simp only [c1, c2, if_true, if_false] at e1 e2 <;> subst e1 <;> subst e2 <;> omega
    · intro h; exact absurd h.1 (by decide)
def fS (po ps qo qs : Int) (n : Nat) : Bool := mtch po ps ((1 + n / 10 : Nat) : Int) ((n % 10 : Nat) : Int) && mtch qo qs ((1 + n / 10 : Nat) : Int) ((n % 10 : Nat) : Int)
def gS (po ps qo qs : Int) (n : Nat) : Bool := !mtch po ps ((1 + n / 10 : Nat) : Int) ((n % 10 : Nat) : Int) || mtch qo qs ((1 + n / 10 : Nat) : Int) ((n % 10 : Nat) : Int)
theorem any_is (po ps qo qs : Int) : (List.range 90).any (fS po ps qo qs) = (meetM po ps qo qs).2.2 := by
  rw [Bool.eq_iff_iff, List.any_eq_true]
  constructor
  · rintro ⟨n, _, h⟩
    unfold fS at h
    rw [both_is, Bool.and_eq_true] at h
    exact h.1
  · intro hok
    obtain ⟨mo, ms, e1, e2, h⟩ := meet_is po ps qo qs
    rcases h with ⟨h1, h2, h3, h4, h5⟩ | ⟨h1, h2⟩
    · rw [narr_iff] at h4
      obtain ⟨o, ho⟩ : ∃ o : Int, o = if mo = 0 then 1 else mo := ⟨_, rfl⟩
      obtain ⟨s, hs⟩ : ∃ s : Int, s = if ms = -1 then 0 else ms := ⟨_, rfl⟩
      have ho' : 1 ≤ o ∧ o ≤ 9 ∧ (mo = 0 ∨ mo = o) := by subst ho; split <;> omega
      have hs' : 0 ≤ s ∧ s ≤ 9 ∧ (ms = -1 ∨ ms = s) := by subst hs; split <;> omega
      refine ⟨((o - 1) * 10 + s).toNat, by rw [List.mem_range]; omega, ?_⟩
      unfold fS
      rw [show ((1 + ((o - 1) * 10 + s).toNat / 10 : Nat) : Int) = o by omega, show ((((o - 1) * 10 + s).toNat % 10 : Nat) : Int) = s by omega, both_is, h1, h2, h3, Bool.true_and, mtch_iff]
      omega
    · rw [h1] at hok; exact absurd hok (by decide)
theorem all_is (po ps qo qs : Int) : ((isPat po ps && isPat qo qs) && (List.range 90).all (gS po ps qo qs)) = narr po ps qo qs := by
  rw [Bool.eq_iff_iff, Bool.and_eq_true, List.all_eq_true, narr_iff]
  unfold isPat inR
  simp only [Bool.and_eq_true, decide_eq_true_eq]
  constructor
  · rintro ⟨⟨hp, hq⟩, h⟩
    obtain ⟨o, ho⟩ : ∃ o : Int, o = if po = 0 then (if qo = 1 then 2 else 1) else po := ⟨_, rfl⟩
    obtain ⟨s, hs⟩ : ∃ s : Int, s = if ps = -1 then (if qs = 0 then 1 else 0) else ps := ⟨_, rfl⟩
    have ho' : 1 ≤ o ∧ o ≤ 9 ∧ (po = 0 ∨ po = o) ∧ (po = 0 → qo ≠ o) := by subst ho; split <;> (try split) <;> omega
    have hs' : 0 ≤ s ∧ s ≤ 9 ∧ (ps = -1 ∨ ps = s) ∧ (ps = -1 → qs ≠ s) := by subst hs; split <;> (try split) <;> omega
    have hg := h ((o - 1) * 10 + s).toNat (by rw [List.mem_range]; omega)
    unfold gS at hg
    rw [show ((1 + ((o - 1) * 10 + s).toNat / 10 : Nat) : Int) = o by omega, show ((((o - 1) * 10 + s).toNat % 10 : Nat) : Int) = s by omega] at hg
    have hm : mtch po ps o s = true := by rw [mtch_iff]; omega
    rw [hm, Bool.not_true, Bool.false_or, mtch_iff] at hg
    omega
  · intro h
    refine ⟨by omega, fun n _ => ?_⟩
    unfold gS
    cases hm : mtch po ps ((1 + n / 10 : Nat) : Int) ((n % 10 : Nat) : Int)
    · rfl
    · rw [mtch_iff] at hm
      rw [Bool.not_true, Bool.false_or, mtch_iff]
      omega
theorem sites_l0 (po ps qo qs : Int) : ∀ (d k i : Nat), i + d = 90 → 3 * d + 20 < k →
    laws_FnSites.l0 k (meetM po ps qo qs).2.2 ((isPat po ps && isPat qo qs) && (List.range i).all (gS po ps qo qs)) ((List.range i).any (fS po ps qo qs)) (i : Int) po ps qo qs (meetM po ps qo qs).1 (meetM po ps qo qs).2.1 = some true := by
  intro d
  induction d with
  | zero =>
    intro k i hi hk
    obtain ⟨k, rfl⟩ : ∃ m, k = m + 1 := ⟨k - 1, by omega⟩
    obtain rfl : i = 90 := by omega
    simp only [laws_FnSites.l0]
    obtain ⟨t, h1, h2⟩ := ptext_is po ps
    rw [if_neg (by omega), any_is, all_is, if_pos (by simp), impl_narr, Option.bind_some, if_pos (by simp), h1, Option.bind_some, impl_pat, Option.bind_some, h2]
    simp
  | succ d ih =>
    intro k i hi hk
    obtain ⟨k, rfl⟩ : ∃ m, k = m + 3 := ⟨k - 3, by omega⟩
    have hd1 : wrap64 (1 + wrap64 (Int.tdiv (i : Int) 10)) = ((1 + i / 10 : Nat) : Int) := by
      rw [Int.tdiv_eq_ediv_of_nonneg (by omega), wr (i := (i : Int) / 10) (by omega) (by omega), wr (by omega) (by omega)]; omega
    have hd2 : Int.tmod (i : Int) 10 = ((i % 10 : Nat) : Int) := by
      rw [Int.tmod_eq_emod_of_nonneg (by omega)]; omega
    have hb := both_is po ps qo qs ((1 + i / 10 : Nat) : Int) ((i % 10 : Nat) : Int)
    have nx := ih k (i + 1) (by omega) (by omega)
    rw [List.range_succ, List.all_append, List.any_append, List.all_cons, List.all_nil, List.any_cons, List.any_nil, Bool.and_true, Bool.or_false, ← Bool.and_assoc] at nx
    rw [show k + 3 = k + 2 + 1 from rfl]
    simp only [laws_FnSites.l0]
    rw [if_pos (by omega), hd1, hd2, impl_mtch, Option.bind_some, impl_mtch, Option.bind_some]
    generalize ((isPat po ps && isPat qo qs) && (List.range i).all (gS po ps qo qs)) = B at nx ⊢
    generalize (List.range i).any (fS po ps qo qs) = A at nx ⊢
    unfold gS fS at nx
    have hif : (if mtch po ps ((1 + i / 10 : Nat) : Int) ((i % 10 : Nat) : Int) = true then laws_FnSites.j2 (k + 2) (meetM po ps qo qs).2.2 B A (i : Int) (mtch qo qs ((1 + i / 10 : Nat) : Int) ((i % 10 : Nat) : Int)) po ps qo qs (meetM po ps qo qs).1 (meetM po ps qo qs).2.1 ((1 + i / 10 : Nat) : Int) ((i % 10 : Nat) : Int) else laws_FnSites.j2 (k + 2) (meetM po ps qo qs).2.2 B A (i : Int) false po ps qo qs (meetM po ps qo qs).1 (meetM po ps qo qs).2.1 ((1 + i / 10 : Nat) : Int) ((i % 10 : Nat) : Int))
        = laws_FnSites.j2 (k + 2) (meetM po ps qo qs).2.2 B A (i : Int) (mtch po ps ((1 + i / 10 : Nat) : Int) ((i % 10 : Nat) : Int) && mtch qo qs ((1 + i / 10 : Nat) : Int) ((i % 10 : Nat) : Int)) po ps qo qs (meetM po ps qo qs).1 (meetM po ps qo qs).2.1 ((1 + i / 10 : Nat) : Int) ((i % 10 : Nat) : Int) := by
      cases mtch po ps ((1 + i / 10 : Nat) : Int) ((i % 10 : Nat) : Int) <;> rfl
    rw [hif]
    rw [show k + 2 = k + 1 + 1 from rfl]
    simp only [laws_FnSites.j2]
    rw [impl_mtch, Option.bind_some]
    have hx : ∀ X : Bool → Option Bool, (if (meetM po ps qo qs).2.2 = true then X ((mtch po ps ((1 + i / 10 : Nat) : Int) ((i % 10 : Nat) : Int) && mtch qo qs ((1 + i / 10 : Nat) : Int) ((i % 10 : Nat) : Int)) != mtch (meetM po ps qo qs).1 (meetM po ps qo qs).2.1 ((1 + i / 10 : Nat) : Int) ((i % 10 : Nat) : Int)) else X ((mtch po ps ((1 + i / 10 : Nat) : Int) ((i % 10 : Nat) : Int) && mtch qo qs ((1 + i / 10 : Nat) : Int) ((i % 10 : Nat) : Int)) != false)) = X false := by
      intro X
      rw [hb]
      cases (meetM po ps qo qs).2.2 <;> simp
    rw [hx (fun x => laws_FnSites.j3 (k + 1) (meetM po ps qo qs).2.2 B A (i : Int) (mtch po ps ((1 + i / 10 : Nat) : Int) ((i % 10 : Nat) : Int) && mtch qo qs ((1 + i / 10 : Nat) : Int) ((i % 10 : Nat) : Int)) x po ps qo qs (meetM po ps qo qs).1 (meetM po ps qo qs).2.1 ((1 + i / 10 : Nat) : Int) ((i % 10 : Nat) : Int))]
    simp only [laws_FnSites.j3, Bool.false_eq_true, if_false, impl_mtch, Option.bind_some]
    rw [wr (i := (i : Int) + 1) (by omega) (by omega), show (i : Int) + 1 = ((i + 1 : Nat) : Int) by omega]
    generalize mtch po ps ((1 + i / 10 : Nat) : Int) ((i % 10 : Nat) : Int) = P at nx ⊢
    generalize mtch qo qs ((1 + i / 10 : Nat) : Int) ((i % 10 : Nat) : Int) = Q at nx ⊢
    cases A <;> cases B <;> cases P <;> cases Q <;> simpa using nx
theorem FnSites : laws_FnSites.Pure := by
  intro l0 _ _ _
  obtain ⟨K, hK⟩ : ∃ K, K = l0.length + 5000 := ⟨_, rfl⟩
  refine ⟨K + 2, ?_⟩
  unfold laws_FnSites.f
  simp only [laws_big.f, Option.bind_some]
  by_cases hb : (l0.length : Int) > 1048576
  · rw [if_pos (decide_eq_true hb)]
  · rw [if_neg (by rw [decide_eq_false hb]; decide)]
    obtain ⟨⟨po, ps, qo, qs⟩, e1, _⟩ := drawMeet_ok (K + 2) l0 (by omega) (by omega)
    rw [e1, Option.bind_some]
    dsimp only
    rw [impl_meet, Option.bind_some, impl_pat, Option.bind_some, spec_pat, Option.bind_some, if_neg (by simp), Option.bind_some]
    have hl := sites_l0 po ps qo qs 90 (K + 1) 0 (by omega) (by omega)
    rw [List.range_zero, List.all_nil, List.any_nil, Bool.and_true] at hl
    rw [impl_pat, Option.bind_some]
    have hj : ∀ b : Bool, laws_FnSites.j0 (K + 2) (meetM po ps qo qs).2.2 b po ps qo qs (meetM po ps qo qs).1 (meetM po ps qo qs).2.1 = laws_FnSites.l0 (K + 1) (meetM po ps qo qs).2.2 b false 0 po ps qo qs (meetM po ps qo qs).1 (meetM po ps qo qs).2.1 := fun b => rfl
    cases hp : isPat po ps
    · rw [if_neg (by decide), hj]
      rw [hp, Bool.false_and] at hl
      exact hl
    · rw [if_pos rfl, hj]
      rw [hp, Bool.true_and] at hl
      exact hl

end Go.Proofs.YtilneejgliglhaaDoor.Pure
