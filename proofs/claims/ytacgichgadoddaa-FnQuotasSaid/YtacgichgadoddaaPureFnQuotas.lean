/- The printed function of the law FnQuotas answers true, for all arguments, under no condition but that each whole number is one of its kind and that each slice has a length that fits. -/
import Derived.Test.YtacgichgadoddaaQHx41
namespace Go.Proofs.Ytacgichgadoddaa.Pure
open Go.RowKit Go.Proofs.Ytacgichgadoddaa.QH Go.Proofs.YtacgichgadoddaaW.PrintWords Go.Proofs.YtacgichgadoddaaW.PrintLast
set_option linter.unusedVariables false
set_option linter.unusedSimpArgs false
theorem wr {i : Int} (h0 : -9223372036854775808 ≤ i) (h1 : i ≤ 9223372036854775807) : wrap64 i = i := by unfold wrap64; omega
theorem beq_dec (a b : Int) : (a == b) = decide (a = b) := by by_cases h : a = b <;> simp [h]
theorem and_if (p : Prop) [Decidable p] (c : Bool) : (if p then some c else some false) = some (decide p && c) := by
  by_cases h : p <;> simp [h]
theorem or_if (p : Prop) [Decidable p] (c : Bool) : (if p then some true else some c) = some (decide p || c) := by
  by_cases h : p <;> simp [h]
def inR (a b c : Int) : Bool := decide (b ≤ a) && decide (a ≤ c)
def isPat (o s : Int) : Bool := inR o 0 9 && inR s (-1) 9
def isSit (o s : Int) : Bool := inR o 1 9 && inR s 0 9
def mtch (po ps o s : Int) : Bool := isPat po ps && (isSit o s && ((decide (po = 0) || decide (po = o)) && (decide (ps = -1) || decide (ps = s))))
def narr (po ps qo qs : Int) : Bool := isPat po ps && (isPat qo qs && ((decide (qo = 0) || decide (po = qo)) && (decide (qs = -1) || decide (ps = qs))))
def isGra (e po ps k f u : Int) : Bool := inR e 1 5 && (isPat po ps && (inR k 1 4 && (decide (0 ≤ f) && (decide (f ≤ u) && decide (u ≤ 10000)))))
def isLim (e po ps k : Int) : Bool := inR e 0 5 && (isPat po ps && inR k 0 4)
def covr (e po ps k f u : Int) (cl : Bool) (ext o s kind tick : Int) (ck : Bool) : Bool :=
  isGra e po ps k f u && (decide (e = ext) && (decide (k = kind) && (mtch po ps o s && (inR tick f u && (ck || !cl)))))
def isRul (e p po ps s a o b : Int) : Bool :=
  inR e 1 5 && (inR p 1 9 && (isPat po ps && (inR s 0 4 && ((decide (a = 1) || decide (a = 2)) && (decide (o = 0) && decide (b = 0)) || decide (a = 3) && isSit o b))))
def isReq (o s t : Int) : Bool := isSit o s && inR t 1 4
def appl (e p po ps s a o b qo qs qt : Int) : Bool := isRul e p po ps s a o b && (isReq qo qs qt && (mtch po ps qo qs && (decide (s = 0) || decide (s = qt))))
def isLen (e po ps k f u : Int) (cl : Bool) : Bool := isGra e po ps k f u && (decide (po ≠ 0) && (decide (ps ≠ -1) && ((decide (k = 1) || decide (k = 2)) && (decide (u = f + 5) && !cl))))
def isLab (x : Int) : Bool := inR x 0 1022 && decide (Int.tmod x 2 = 0)
def befo (ae ap aa ao ab be bp ba bo bb : Int) : Bool :=
  if ap = bp then (if aa = ba then (if ae = be then (if ao = bo then decide (ab < bb) else decide (ao < bo)) else decide (ae < be)) else decide (aa < ba)) else decide (bp < ap)
def within (e po ps k f u : Int) (cl : Bool) (e' po' ps' k' f' u' : Int) (cl' : Bool) : Bool :=
  isGra e po ps k f u && (isGra e' po' ps' k' f' u' && (decide (e = e') && (decide (k = k') && (narr po ps po' ps' && (decide (f' ≤ f) && (decide (u ≤ u') && (cl || !cl')))))))
theorem take_set1 {α : Type} (s : List α) (i : Nat) (v : α) (h : i < s.length) : (s.set i v).take (i + 1) = s.take i ++ [v] := by
  rw [List.take_succ_eq_append_getElem (by simpa using h), List.take_set, List.set_eq_of_length_le (by simp; omega)]
  simp
theorem loop_up {σ ρ : Type} (g : Nat → σ → Int → Option ρ) (n : Nat) (out : σ → Nat → ρ) (I : σ → Nat → Prop) (hn : n ≤ 9223372036854775806)
    (hstep : ∀ (k : Nat) (s : σ) (i : Nat), i < n → I s i → (∀ s', I s' (i + 1) → g k s' (wrap64 ((i : Int) + 1)) = some (out s' (i + 1))) → g (k + 1) s (i : Int) = some (out s i))
    (hend : ∀ (k : Nat) (s : σ), I s n → g (k + 1) s (n : Int) = some (out s n)) :
    ∀ (d k : Nat) (s : σ) (i : Nat), i + d = n → d < k → I s i → g k s (i : Int) = some (out s i) := by
  intro d
  induction d with
  | zero =>
    intro k s i hi hk hI
    obtain ⟨k, rfl⟩ : ∃ m, k = m + 1 := ⟨k - 1, by omega⟩
    obtain rfl : i = n := by omega
    exact hend k s hI
  | succ d ih =>
    intro k s i hi hk hI
    obtain ⟨k, rfl⟩ : ∃ m, k = m + 1 := ⟨k - 1, by omega⟩
    refine hstep k s i (by omega) hI fun s' hI' => ?_
    have := ih k s' (i + 1) (by omega) (by omega) hI'
    rw [wr (by omega) (by omega)]
    exact_mod_cast this
theorem loop_from {σ ρ : Type} {g : Nat → σ → Int → Option ρ} {n : Nat} {out : σ → Nat → ρ} {I : σ → Nat → Prop} (h : ∀ (d k : Nat) (s : σ) (i : Nat), i + d = n → d < k → I s i → g k s (i : Int) = some (out s i))
    (k : Nat) (hk : n < k) (s : σ) (hI : I s 0) : g k s 0 = some (out s 0) := by
  have := h n k s 0 (by omega) hk hI
  exact_mod_cast this
theorem drop_at {α : Type} (xs : List α) (i : Nat) (h : i < xs.length) : xs.drop i = xs[i] :: xs.drop (i + 1) := List.drop_eq_getElem_cons h

theorem nlt {n : Nat} : ¬ (n : Int) < (n : Int) := by omega
/-- where a list is copied element by element into a made one -/
theorem rd_at {α : Type} (z : α) (xs : List α) (i : Nat) (h : i < xs.length) : xs.getD (i : Int).toNat z = xs[i] := by simp [h]

theorem loop_upm {σ ρ : Type} (m : Nat) (g : Nat → σ → Int → Option ρ) (n : Nat) (out : σ → Nat → ρ) (I : σ → Nat → Prop) (hn : n ≤ 9223372036854775806)
    (hstep : ∀ (k : Nat) (s : σ) (i : Nat), m ≤ k → i < n → I s i → (∀ s', I s' (i + 1) → g k s' (wrap64 ((i : Int) + 1)) = some (out s' (i + 1))) → g (k + 1) s (i : Int) = some (out s i))
    (hend : ∀ (k : Nat) (s : σ), m ≤ k → I s n → g (k + 1) s (n : Int) = some (out s n)) :
    ∀ (d k : Nat) (s : σ) (i : Nat), i + d = n → d + m < k → I s i → g k s (i : Int) = some (out s i) := by
  intro d
  induction d with
  | zero =>
    intro k s i hi hk hI
    obtain ⟨k, rfl⟩ : ∃ m, k = m + 1 := ⟨k - 1, by omega⟩
    obtain rfl : i = n := by omega
    exact hend k s (by omega) hI
  | succ d ih =>
    intro k s i hi hk hI
    obtain ⟨k, rfl⟩ : ∃ m, k = m + 1 := ⟨k - 1, by omega⟩
    refine hstep k s i (by omega) (by omega) hI fun s' hI' => ?_
    have := ih k s' (i + 1) (by omega) (by omega) hI'
    rw [wr (by omega) (by omega)]
    exact_mod_cast this
theorem loop_fromm {σ ρ : Type} {m : Nat} {g : Nat → σ → Int → Option ρ} {n : Nat} {out : σ → Nat → ρ} {I : σ → Nat → Prop} (h : ∀ (d k : Nat) (s : σ) (i : Nat), i + d = n → d + m < k → I s i → g k s (i : Int) = some (out s i))
    (k : Nat) (hk : n + m < k) (s : σ) (hI : I s 0) : g k s 0 = some (out s 0) := by
  have := h n k s 0 (by omega) hk hI
  exact_mod_cast this
theorem loop_run {σ ρ : Type} (m : Nat) (g : Nat → σ → Int → Option ρ) (n : Nat) (out : σ → Nat → ρ) (I : σ → Nat → Prop) (hn : n ≤ 9223372036854775806)
    (hstep : ∀ (k : Nat) (s : σ) (i : Nat), m ≤ k → i < n → I s i → (∀ s', I s' (i + 1) → g k s' (wrap64 ((i : Int) + 1)) = some (out s' (i + 1))) → g (k + 1) s (i : Int) = some (out s i))
    (hend : ∀ (k : Nat) (s : σ), m ≤ k → I s n → g (k + 1) s (n : Int) = some (out s n)) (k : Nat) (hk : n + m < k) (s : σ) (hI : I s 0) : g k s 0 = some (out s 0) :=
  loop_fromm (loop_upm m g n out I hn hstep hend) k hk s hI
theorem if_and2 {α : Type} (a : Bool) (p : Prop) [Decidable p] (x y : α) : (if a = true then (if p then x else y) else y) = if (a && decide p) = true then x else y := by
  cases a <;> by_cases h : p <;> simp [h]

theorem if_nand {α : Type} (a b : Bool) (x y : α) : (if a = true then (if b = true then y else x) else x) = if (!(a && b)) = true then x else y := by
  cases a <;> cases b <;> simp
theorem rdPattern_i (xs : List S32) (i : Nat) (h : i < xs.length) : rd_T32 xs (i : Int) = xs[i] := rd_at _ xs i h
theorem rdSite_i (xs : List S33) (i : Nat) (h : i < xs.length) : rd_T33 xs (i : Int) = xs[i] := rd_at _ xs i h
theorem rdRule_i (xs : List S35) (i : Nat) (h : i < xs.length) : rd_T35 xs (i : Int) = xs[i] := rd_at _ xs i h

theorem impl_RulesOf_eq (k : Nat) (xs : List S35) (x : Int) (hn : xs.length ≤ 1048576) (hk : xs.length < k) : impl_RulesOf.f k xs x = some (xs.filter fun r => decide (r.f0 = x)) := by
  have L := loop_run 0 (fun k (s : List S35) i => impl_RulesOf.l0 k x s xs (xs.length : Int) i) xs.length (fun s i => s ++ (xs.drop i).filter fun r => decide (r.f0 = x)) (fun s i => s.length ≤ i) (by omega)
    (fun k s i hm hi hI ih => by
      have hd := drop_at xs i hi
      have hr := rdRule_i xs i hi
      generalize xs[i] = r at hd hr
      simp only [impl_RulesOf.l0]
      rw [if_pos (by omega), if_pos (by omega), if_pos (by omega)]
      simp only [hr]
      rw [hd]
      by_cases hp : (decide (r.f0 = x)) = true
      · have hp' := hp
        rw [if_pos (of_decide_eq_true hp)]
        rw [if_pos (by omega), ih _ (by simp; omega)]
        simp only [List.filter_cons, hp', ↓reduceIte, List.append_assoc]
        rfl
      · have hp' := hp
        rw [if_neg (fun h => hp (decide_eq_true h))]
        rw [ih _ (by omega)]
        simp only [List.filter_cons, hp', ↓reduceIte, Bool.false_eq_true])
    (fun k s hm hI => by
      simp only [impl_RulesOf.l0]
      rw [if_neg nlt, List.drop_of_length_le (Nat.le_refl _)]
      simp) k hk [] (by simp)
  try dsimp only at L
  unfold impl_RulesOf.f
  rw [L]
  simp

theorem impl_in (a b c : Int) : impl_InRange.f a b c = some (inR a b c) := by
  unfold impl_InRange.f inR; exact and_if _ _

theorem impl_pat (a b : Int) : impl_IsPattern.f a b = some (isPat a b) := by
  unfold impl_IsPattern.f isPat; simp only [impl_in, Option.bind_some]; cases inR a 0 9 <;> simp

theorem impl_sit (a b : Int) : impl_IsSite.f a b = some (isSit a b) := by
  unfold impl_IsSite.f isSit; simp only [impl_in, Option.bind_some]; cases inR a 1 9 <;> simp


def sameRule (a b c d e f g h : Int) (r : S35) : Bool := (r.f0 == a && (r.f1 == b && ((r.f2.f0 == c && (r.f2.f1 == d)) && (r.f3 == e && (r.f4 == f && ((r.f5.f0 == g && (r.f5.f1 == h))))))))
theorem sameRule_c (a b c d e f g h : Int) (r : S35) : (a == r.f0 && (b == r.f1 && ((c == r.f2.f0 && (d == r.f2.f1)) && (e == r.f3 && (f == r.f4 && ((g == r.f5.f0 && (h == r.f5.f1)))))))) = sameRule a b c d e f g h r := by
  have E0 : ∀ x y : Int, (x == y) = (y == x) := fun x y => by rw [beq_dec, beq_dec]; exact decide_eq_decide.2 eq_comm
  unfold sameRule
  rw [E0 a, E0 b, E0 c, E0 d, E0 e, E0 f, E0 g, E0 h]

theorem ixRule_l (k : Nat) (xs : List S35) (a b c d e f g h : Int) (hn : xs.length ≤ 1048576) (hk : xs.length < k) : impl_Rule_129.f k xs a b c d e f g h = some (if xs.any (sameRule a b c d e f g h) then ((xs.findIdx (sameRule a b c d e f g h) : Nat) : Int) else -1) := by
  have L := loop_run 0 (fun k (_ : Unit) i => impl_Rule_129.l0 k xs (xs.length : Int) i a b c d e f g h) xs.length (fun _ i => if (xs.drop i).any (sameRule a b c d e f g h) then ((i + (xs.drop i).findIdx (sameRule a b c d e f g h) : Nat) : Int) else -1) (fun _ _ => True) (by omega)
    (fun k u_ i hm hi hI ih => by
      have hd := drop_at xs i hi
      have hr := rdRule_i xs i hi
      generalize xs[i] = r at hd hr
      have ih' := ih () trivial
      try dsimp only at ih'
      simp only [impl_Rule_129.l0]
      rw [if_pos (by omega), if_pos (by omega), if_pos (by omega)]
      simp only [hr]
      rw [sameRule_c, ih', hd, List.any_cons, List.findIdx_cons]
      cases sameRule a b c d e f g h r
      · simp only [Bool.false_or, Bool.false_eq_true, if_false, cond_false]
        congr 1
        split
        · omega
        · rfl
      · simp)
    (fun k u_ hm hI => by
      simp only [impl_Rule_129.l0]
      rw [if_neg nlt, List.drop_of_length_le (Nat.le_refl _)]
      simp) k hk () trivial
  try dsimp only at L
  unfold impl_Rule_129.f
  rw [L, List.drop_zero, Nat.zero_add]


theorem hasRule_eq (k : Nat) (xs : List S35) (a b c d e f g h : Int) (hn : xs.length ≤ 1048576) (hk : xs.length < k) : impl_Rule_88.f k xs a b c d e f g h = some (xs.any (sameRule a b c d e f g h)) := by
  unfold impl_Rule_88.f
  rw [ixRule_l k xs a b c d e f g h hn hk, Option.bind_some]
  congr 1
  split
  · next h => rw [h]; exact decide_eq_true (by omega)
  · next h => rw [Bool.eq_false_iff.2 h]; rfl


theorem cloneRule_eq (xs : List S35) (hn : xs.length ≤ 1048576) : impl_Rule_95.f xs = some xs := by
  unfold impl_Rule_95.f
  rw [Option.bind_some, if_pos (by simp; omega), List.nil_append]


theorem bind_ok {α β : Type} {o : Option α} {f : α → Option β} {Q : α → Prop} {R : β → Prop} (h : ∃ r, o = some r ∧ Q r) (hf : ∀ r, Q r → ∃ y, f r = some y ∧ R y) : ∃ y, o.bind f = some y ∧ R y := by
  obtain ⟨r, rfl, q⟩ := h; exact hf r q
theorem if_ok {β : Type} {p : Prop} [Decidable p] {a b : Option β} {R : β → Prop} (h : p → ∃ y, a = some y ∧ R y) (h' : ¬ p → ∃ y, b = some y ∧ R y) : ∃ y, (if p then a else b) = some y ∧ R y := by
  by_cases c : p
  · rw [if_pos c]; exact h c
  · rw [if_neg c]; exact h' c
theorem and255 (a : Int) : 0 ≤ Go.bits .and .i64 a 255 ∧ Go.bits .and .i64 a 255 ≤ 255 := by
  have h : ((BitVec.ofInt (IntKind.bits .i64) a) &&& (BitVec.ofInt (IntKind.bits .i64) 255)).toNat ≤ 255 := by
    rw [BitVec.toNat_and]; exact Nat.le_trans Nat.and_le_right (by decide)
  show 0 ≤ IntKind.wrap .i64 _ ∧ IntKind.wrap .i64 _ ≤ 255
  generalize ((BitVec.ofInt (IntKind.bits .i64) a) &&& (BitVec.ofInt (IntKind.bits .i64) 255)).toNat = n at h
  have e : IntKind.wrap .i64 (n : Int) = (n : Int) := by rw [i64_w]; exact wr (i := (n : Int)) (by omega) (by omega)
  rw [e]; omega

theorem new_ok (s : List Int) (hs : s.length ≤ 1048576) : ∀ (d k : Nat) (y : Int) (i : Nat), i + d = s.length → d < k → ∃ r, spec_l1New.l0 k s y (i : Int) = some r ∧ r.1 = s ∧ r.2.1 = 0 := by
  intro d
  induction d with
  | zero =>
    intro k y i hi hk
    obtain ⟨k, rfl⟩ : ∃ m, k = m + 1 := ⟨k - 1, by omega⟩
    simp only [spec_l1New.l0]
    rw [if_neg (by omega)]
    exact ⟨_, rfl, rfl, rfl⟩
  | succ d ih =>
    intro k y i hi hk
    obtain ⟨k, rfl⟩ : ∃ m, k = m + 1 := ⟨k - 1, by omega⟩
    simp only [spec_l1New.l0]
    rw [if_pos (by omega)]
    refine if_ok (fun _ => ?_) (fun _ => ⟨_, rfl, rfl, rfl⟩)
    rw [if_pos (by omega), wr (i := (i : Int) + 1) (by omega) (by omega)]
    exact ih k _ (i + 1) (by omega) (by omega)
theorem l1New_ok (k : Nat) (s : List Int) (hs : s.length ≤ 1048576) (hk : s.length < k) : ∃ r, spec_l1New.f k s = some r ∧ r.1 = s ∧ r.2.1 = 0 := by
  unfold spec_l1New.f
  exact new_ok s hs s.length k _ 0 (by omega) hk


theorem byte_ok (s : List Int) (p x : Int) (hs : s.length ≤ 1048576) (hp : 0 ≤ p) : ∃ r, spec_l1Byte.f s p x = some r ∧ (0 ≤ r.1 ∧ r.1 ≤ 255) ∧ 0 ≤ r.2.1 := by
  unfold spec_l1Byte.f
  refine if_ok (fun h => ?_) (fun _ => ⟨_, rfl, and255 _, hp⟩)
  rw [if_pos hp, wr (i := p + 1) (by omega) (by omega)]
  exact ⟨_, rfl, and255 _, by show (0 : Int) ≤ p + 1; omega⟩


theorem below_ok (s : List Int) (p x n : Int) (hs : s.length ≤ 1048576) (hp : 0 ≤ p) (h0 : 0 < n) (h1 : n ≤ 256) : ∃ r, spec_l1Below.f s p x n = some r ∧ (0 ≤ r.1 ∧ r.1 < n) ∧ 0 ≤ r.2.1 := by
  unfold spec_l1Below.f
  rw [if_neg (by omega), if_pos h1]
  refine bind_ok (byte_ok s p x hs hp) fun r hr => ?_
  rw [if_neg (by omega)]
  exact ⟨_, rfl, ⟨Int.tmod_nonneg _ hr.1.1, Int.tmod_lt_of_pos _ h0⟩, hr.2⟩


theorem once_ok (s : List Int) (p x n : Int) (hs : s.length ≤ 1048576) (hp : 0 ≤ p) (h0 : 0 < n) (h1 : n ≤ 256) : ∃ r, spec_l1Once.f s p x n = some r ∧ 0 ≤ r.2.1 := by
  unfold spec_l1Once.f
  exact bind_ok (below_ok s p x n hs hp h0 h1) fun r hr => ⟨_, rfl, hr.2⟩

theorem spec_in (a b c : Int) : spec_l1In.f a b c = some (inR a b c) := by
  unfold spec_l1In.f inR; exact and_if _ _

theorem spec_sit (a b : Int) : spec_IsSite.f a b = some (isSit a b) := by
  unfold spec_IsSite.f isSit; simp only [spec_in, Option.bind_some]; cases inR a 1 9 <;> simp

theorem spec_pat (a b : Int) : spec_IsPattern.f a b = some (isPat a b) := by
  unfold spec_IsPattern.f isPat; simp only [spec_in, Option.bind_some]; cases inR a 0 9 <;> simp

theorem spec_RulesOf_eq (k : Nat) (xs : List S35) (x : Int) (hn : xs.length ≤ 1048576) (hk : xs.length < k) : spec_RulesOf.f k xs x = some (xs.filter fun r => decide (r.f0 = x)) := by
  have L := loop_run 0 (fun k (s : List S35) i => spec_RulesOf.l0 k xs x s i) xs.length (fun s i => s ++ (xs.drop i).filter fun r => decide (r.f0 = x)) (fun s i => s.length ≤ i) (by omega)
    (fun k s i hm hi hI ih => by
      have hd := drop_at xs i hi
      have hr := rdRule_i xs i hi
      generalize xs[i] = r at hd hr
      simp only [spec_RulesOf.l0]
      rw [if_pos (by omega), if_pos (by omega)]
      simp only [hr]
      rw [hd]
      by_cases hp : (decide (r.f0 = x)) = true
      · have hp' := hp
        rw [if_pos (of_decide_eq_true hp)]
        rw [if_pos (by omega), ih _ (by simp; omega)]
        simp only [List.filter_cons, hp', ↓reduceIte, List.append_assoc]
        rfl
      · have hp' := hp
        rw [if_neg (fun h => hp (decide_eq_true h))]
        rw [ih _ (by omega)]
        simp only [List.filter_cons, hp', ↓reduceIte, Bool.false_eq_true])
    (fun k s hm hI => by
      simp only [spec_RulesOf.l0]
      rw [if_neg nlt, List.drop_of_length_le (Nat.le_refl _)]
      simp) k hk [] (by simp)
  try dsimp only at L
  unfold spec_RulesOf.f
  rw [L]
  simp


theorem site_ok (s : List Int) (p x : Int) (hs : s.length ≤ 1048576) (hp : 0 ≤ p) : ∃ r, spec_l9Site.f s p x = some r ∧ 0 ≤ r.2.2.1 := by
  unfold spec_l9Site.f
  exact bind_ok (below_ok s p x _ hs hp (by omega) (by omega)) fun r hr => bind_ok (below_ok s _ _ _ hs hr.2 (by omega) (by omega)) fun r hr => ⟨_, rfl, hr.2⟩


theorem pattern_ok (s : List Int) (p x : Int) (hs : s.length ≤ 1048576) (hp : 0 ≤ p) : ∃ r, spec_l9Pattern.f s p x = some r ∧ 0 ≤ r.2.2.1 := by
  unfold spec_l9Pattern.f
  exact bind_ok (below_ok s p x _ hs hp (by omega) (by omega)) fun r hr => bind_ok (below_ok s _ _ _ hs hr.2 (by omega) (by omega)) fun r hr => ⟨_, rfl, hr.2⟩


theorem int_ok (s : List Int) (p x : Int) (l : List Int) (hs : s.length ≤ 1048576) (hp : 0 ≤ p) (h0 : 0 < l.length) (h1 : l.length ≤ 256) : ∃ r, spec_l1Int.f s p x l = some r ∧ 0 ≤ r.2.1 := by
  unfold spec_l1Int.f
  refine bind_ok (below_ok s p x _ hs hp (by omega) (by omega)) fun r hr => ?_
  rw [if_pos hr.1.1, if_pos hr.1.2]
  exact ⟨_, rfl, hr.2⟩


theorem raw_ok (s : List Int) (p x : Int) (hs : s.length ≤ 1048576) (hp : 0 ≤ p) : ∃ r, spec_l9Raw.f s p x = some r ∧ 0 ≤ r.2.1 := by
  unfold spec_l9Raw.f
  exact bind_ok (int_ok s p x _ hs hp (by decide) (by decide)) fun r hr => ⟨_, rfl, hr⟩

def neqRuleiER (a b : S35) : Bool := !(a.f0 == b.f0) || (!(a.f1 == b.f1) || ((!(a.f2.f0 == b.f2.f0) || (!(a.f2.f1 == b.f2.f1))) || (!(a.f3 == b.f3) || (!(a.f4 == b.f4) || ((!(a.f5.f0 == b.f5.f0) || (!(a.f5.f1 == b.f5.f1))))))))
theorem iER_l (k : Nat) (xs ys : List S35) (hn : xs.length ≤ 1048576) (hy : xs.length = ys.length) (hk : xs.length < k) : impl_Rule_108.l0 k xs ys (xs.length : Int) 0 = some ((xs.zip ys).all fun p => !neqRuleiER p.1 p.2) := by
  have L := loop_run 0 (fun k (_ : Unit) i => impl_Rule_108.l0 k xs ys (xs.length : Int) i) xs.length (fun _ i => ((xs.drop i).zip (ys.drop i)).all fun p => !neqRuleiER p.1 p.2) (fun _ _ => True) (by omega)
    (fun k u_ i hm hi hI ih => by
      have hd := drop_at xs i hi
      have hr := rdRule_i xs i hi
      have hd2 := drop_at ys i (by omega)
      have hr2 := rdRule_i ys i (by omega)
      generalize xs[i] = r at hd hr
      generalize ys[i] = q at hd2 hr2
      have ih' := ih () trivial
      try dsimp only at ih'
      simp only [impl_Rule_108.l0]
      rw [if_pos (by omega), if_pos (by omega), if_pos (by omega), if_pos (by omega)]
      simp only [hr, hr2]
      rw [hd, hd2, List.zip_cons_cons, List.all_cons, ih']
      show (if neqRuleiER r q = true then some false else _) = _
      cases neqRuleiER r q <;> simp)
    (fun k u_ hm hI => by
      simp only [impl_Rule_108.l0]
      rw [if_neg nlt, List.drop_of_length_le (Nat.le_refl _)]
      rfl) k hk () trivial
  try dsimp only at L
  rw [L]
  rfl

theorem eqRule_lib (k : Nat) (xs ys : List S35) (hn : xs.length ≤ 1048576) (hk : xs.length < k) : impl_Rule_108.f k xs ys = some (decide (xs.length = ys.length) && (xs.zip ys).all fun p => !neqRuleiER p.1 p.2) := by
  unfold impl_Rule_108.f
  by_cases h : xs.length = ys.length
  · rw [if_pos (by omega), iER_l k xs ys hn h hk]; simp [h]
  · rw [if_neg (by omega)]; simp [h]

theorem impl_EqualRules_eq (k : Nat) (xs ys : List S35) (hn : xs.length ≤ 1048576) (hk : xs.length < k) : impl_EqualRules.f k xs ys = some (decide (xs.length = ys.length) && (xs.zip ys).all fun p => !neqRuleiER p.1 p.2) := by
  unfold impl_EqualRules.f
  rw [eqRule_lib k xs ys hn hk]; rfl

theorem impl_rul (n : Nat) (e p po ps s a o b : Int) : impl_IsRule.f (n + 2) e p po ps s a o b = some (isRul e p po ps s a o b) := by
  unfold impl_IsRule.f isRul; simp only [impl_in, impl_pat, Option.bind_some, impl_IsRule.j0, impl_IsRule.j1, impl_sit]
  cases inR e 1 5 <;> cases inR p 1 9 <;> cases isPat po ps <;> cases inR s 0 4 <;> simp
  by_cases h1 : a = 1
  · subst h1; simp [beq_dec]
  · by_cases h2 : a = 2
    · subst h2; simp [beq_dec]
    · by_cases h3 : a = 3
      · subst h3; simp
      · simp [h1, h2, h3]

theorem spec_rul (e p po ps s a o b : Int) : spec_IsRule.f e p po ps s a o b = some (isRul e p po ps s a o b) := by
  unfold spec_IsRule.f isRul; simp only [spec_in, spec_pat, Option.bind_some, spec_sit]
  cases inR e 1 5 <;> cases inR p 1 9 <;> cases isPat po ps <;> cases inR s 0 4 <;> simp
  by_cases h1 : a = 1
  · subst h1; simp [beq_dec, inR]
  · by_cases h2 : a = 2
    · subst h2; simp [beq_dec, inR]
    · by_cases h3 : a = 3
      · subst h3; cases isSit o b <;> simp [inR]
      · have : inR a 1 3 = false := by unfold inR; simp; omega
        simp [h1, h2, h3, this]


def sameRs (a b c d e f g h : Int) (r : S35) : Bool := (r.f0 == a && (r.f1 == b && ((r.f2.f0 == c && (r.f2.f1 == d)) && (r.f3 == e && (r.f4 == f && ((r.f5.f0 == g && (r.f5.f1 == h))))))))
def canAdd (xs : List S35) (a b c d e f g h : Int) : Bool := !xs.any (sameRs a b c d e f g h) && (isRul a b c d e f g h && (decide (((xs.filter fun y => decide (y.f0 = a)).length : Int) < 6) && decide ((xs.length : Int) < 20)))

theorem spec_CanAddRule_eq (k : Nat) (xs : List S35) (a b c d e f g h : Int) (hn : xs.length ≤ 1048576) (hk : xs.length + (xs.length + 5) < k) : spec_CanAddRule.f k xs a b c d e f g h = some (canAdd xs a b c d e f g h) := by
  have L := loop_run (xs.length + 5) (fun k (_ : Unit) i => spec_CanAddRule.l0 k xs i a b c d e f g h) xs.length (fun _ i => !(xs.drop i).any (sameRs a b c d e f g h) && (isRul a b c d e f g h && (decide (((xs.filter fun y => decide (y.f0 = a)).length : Int) < 6) && decide ((xs.length : Int) < 20)))) (fun _ _ => True) (by omega)
    (fun k u_ i hm hi hI ih => by
      have hd := drop_at xs i hi
      have hr := rdRule_i xs i hi
      generalize xs[i] = r at hd hr
      have ih' := ih () trivial
      try dsimp only at ih'
      simp only [spec_CanAddRule.l0]
      rw [if_pos (by omega), if_pos (by omega)]
      simp only [hr]
      rw [hd, List.any_cons, ih']
      show (if sameRs a b c d e f g h r = true then some false else _) = _
      cases sameRs a b c d e f g h r <;> simp)
    (fun k u_ hm hI => by
      simp only [spec_CanAddRule.l0]
      rw [if_neg nlt, List.drop_of_length_le (Nat.le_refl _), spec_rul, Option.bind_some, spec_RulesOf_eq k xs a hn (by omega), Option.bind_some]
      cases isRul a b c d e f g h
      · simp
      · by_cases h1 : ((xs.filter fun y => decide (y.f0 = a)).length : Int) < 6
        · rw [if_pos rfl, if_pos h1]; simp [h1]
        · rw [if_pos rfl, if_neg h1]; simp [h1]) k hk () trivial
  try dsimp only at L
  unfold spec_CanAddRule.f
  rw [L, List.drop_zero]
  rfl


def addR (xs : List S35) (a b c d e f g h : Int) : List S35 × Bool := if canAdd xs a b c d e f g h = true then (xs ++ [⟨a, b, ⟨c, d⟩, e, f, ⟨g, h⟩⟩], true) else (xs, false)
theorem addR_len (xs : List S35) (a b c d e f g h : Int) (hn : xs.length ≤ 1048576) : (addR xs a b c d e f g h).1.length ≤ 1048576 ∧ (addR xs a b c d e f g h).1.length ≤ xs.length + 1 := by
  unfold addR
  split
  · next h =>
    unfold canAdd at h
    simp only [Bool.and_eq_true, decide_eq_true_eq] at h
    simp only [List.length_append, List.length_singleton]
    omega
  · simp only; omega
theorem spec_AddRule_eq (k : Nat) (xs : List S35) (a b c d e f g h : Int) (hn : xs.length ≤ 1048576) (hk : xs.length + (xs.length + 5) < k) : spec_AddRule.f k xs a b c d e f g h = some (addR xs a b c d e f g h) := by
  unfold spec_AddRule.f addR
  rw [Option.bind_some, if_pos (by simp; omega), Option.bind_some, spec_CanAddRule_eq k xs _ _ _ _ _ _ _ _ hn hk, Option.bind_some, List.nil_append]
  cases canAdd xs a b c d e f g h
  · rfl
  · rw [if_pos rfl, if_pos (by omega)]; rfl


theorem impl_CanAddRule_eq (k : Nat) (xs : List S35) (a b c d e f g h : Int) (hn : xs.length ≤ 1048576) (hk : xs.length + 5 < k) : impl_CanAddRule.f k xs a b c d e f g h = some (canAdd xs a b c d e f g h) := by
  obtain ⟨k, rfl⟩ : ∃ z, k = z + 2 := ⟨k - 2, by omega⟩
  unfold impl_CanAddRule.f canAdd
  rw [impl_rul, Option.bind_some, hasRule_eq _ xs a b c d e f g h hn (by omega), Option.bind_some, impl_RulesOf_eq _ xs a hn (by omega), Option.bind_some]
  show _ = some (!xs.any (sameRule a b c d e f g h) && _)
  cases isRul a b c d e f g h
  · simp
  · cases xs.any (sameRule a b c d e f g h)
    · by_cases h1 : ((xs.filter fun y => decide (y.f0 = a)).length : Int) < 6
      · rw [if_pos rfl, if_neg (by simp), if_pos h1]; simp [h1]
      · rw [if_pos rfl, if_neg (by simp), if_neg h1]; simp [h1]
    · simp


theorem impl_AddRule_eq (k : Nat) (xs : List S35) (a b c d e f g h : Int) (hn : xs.length ≤ 1048576) (hk : xs.length + 5 < k) : impl_AddRule.f k xs a b c d e f g h = some (addR xs a b c d e f g h) := by
  unfold impl_AddRule.f addR
  rw [cloneRule_eq xs hn, Option.bind_some, impl_CanAddRule_eq k xs _ _ _ _ _ _ _ _ hn hk, Option.bind_some]
  cases canAdd xs a b c d e f g h
  · rfl
  · rw [if_pos rfl, if_pos (by omega)]; rfl


theorem l13_ok (s : List Int) (p x : Int) (hs : s.length ≤ 1048576) (hp : 0 ≤ p) : ∃ r, spec_l13Draw.f s p x = some r ∧ 0 ≤ r.2.2.2.2.2.2.2.2.1 := by
  unfold spec_l13Draw.f
  exact bind_ok (below_ok s p x _ hs hp (by omega) (by omega)) fun r1 h1 => bind_ok (below_ok s _ _ _ hs h1.2 (by omega) (by omega)) fun r2 h2 => bind_ok (pattern_ok s _ _ hs h2.2) fun r3 h3 =>
    bind_ok (below_ok s _ _ _ hs h3 (by omega) (by omega)) fun r4 h4 => bind_ok (below_ok s _ _ _ hs h4.2 (by omega) (by omega)) fun r5 h5 => if_ok (fun _ => bind_ok (site_ok s _ _ hs h5.2) fun r6 h6 => ⟨_, rfl, h6⟩) (fun _ => ⟨_, rfl, h5.2⟩)


theorem l17_l1 (s : List Int) (x : Int) : ∀ (d k : Nat) (xs : List S35) (i p : Int), i + d = 8 → 0 ≤ i → d < k → xs.length + d ≤ 1000 → 0 ≤ p → ∃ r, spec_l17List.l1 k xs i s p x = some r ∧ r.1.length ≤ xs.length + d ∧ 0 ≤ r.2.1 := by
  intro d
  induction d with
  | zero =>
    intro k xs i p hi h0 hk hl hp
    obtain ⟨k, rfl⟩ : ∃ m, k = m + 1 := ⟨k - 1, by omega⟩
    simp only [spec_l17List.l1]
    rw [if_neg (by omega)]
    exact ⟨_, rfl, Nat.le_refl _, hp⟩
  | succ d ih =>
    intro k xs i p hi h0 hk hl hp
    obtain ⟨k, rfl⟩ : ∃ m, k = m + 1 := ⟨k - 1, by omega⟩
    simp only [spec_l17List.l1]
    rw [if_pos (by omega), if_pos (by omega), wr (i := i + 1) (by omega) (by omega)]
    · obtain ⟨r, e, h1, h2⟩ := ih k (xs ++ [⟨1, wrap64 (1 + i), ⟨0, -1⟩, 0, 1, ⟨0, 0⟩⟩]) (i + 1) p (by omega) (by omega) (by omega) (by simp; omega) hp
      refine ⟨r, e, ?_, h2⟩
      simp only [List.length_append, List.length_singleton] at h1
      omega

theorem l17_l0 (s : List Int) (hs : s.length ≤ 1048576) : ∀ (d k : Nat) (xs : List S35) (p x : Int), d + 100 < k → xs.length + d ≤ 12 → 0 ≤ p → ∃ r, spec_l17List.l0 k xs (d : Int) s p x = some r ∧ r.1.length ≤ xs.length + d + 8 ∧ 0 ≤ r.2.1 := by
  intro d
  induction d with
  | zero =>
    intro k xs p x hk hl hp
    obtain ⟨k, rfl⟩ : ∃ m, k = m + 1 := ⟨k - 1, by omega⟩
    simp only [spec_l17List.l0]
    rw [if_neg (by omega)]
    refine bind_ok (once_ok s p x 8 hs hp (by omega) (by omega)) fun r hr => if_ok (fun _ => ?_) (fun _ => ⟨_, rfl, by show xs.length ≤ _; omega, hr⟩)
    obtain ⟨r2, e, h1, h2⟩ := l17_l1 s r.2.2 8 k xs 0 r.2.1 (by omega) (by omega) (by omega) (by omega) hr
    exact ⟨r2, e, by omega, h2⟩
  | succ d ih =>
    intro k xs p x hk hl hp
    obtain ⟨k, rfl⟩ : ∃ m, k = m + 1 := ⟨k - 1, by omega⟩
    simp only [spec_l17List.l0]
    rw [if_pos (by omega)]
    refine bind_ok (l13_ok s p x hs hp) fun r hr => ?_
    rw [spec_AddRule_eq k xs _ _ _ _ _ _ _ _ (by omega) (by omega), Option.bind_some, wr (by omega) (by omega), show (((d + 1 : Nat) : Int) - 1) = (d : Int) by omega]
    have ha := (addR_len xs r.1 r.2.1 r.2.2.1 r.2.2.2.1 r.2.2.2.2.1 r.2.2.2.2.2.1 r.2.2.2.2.2.2.1 r.2.2.2.2.2.2.2.1 (by omega)).2
    obtain ⟨r2, e, h1, h2⟩ := ih k (addR xs r.1 r.2.1 r.2.2.1 r.2.2.2.1 r.2.2.2.2.1 r.2.2.2.2.2.1 r.2.2.2.2.2.2.1 r.2.2.2.2.2.2.2.1).1 r.2.2.2.2.2.2.2.2.1 r.2.2.2.2.2.2.2.2.2 (by omega) (by omega) hr
    exact ⟨r2, e, by omega, h2⟩
theorem l17_ok (k : Nat) (s : List Int) (p x : Int) (hs : s.length ≤ 1048576) (hk : 200 < k) (hp : 0 ≤ p) : ∃ r, spec_l17List.f k s p x = some r ∧ r.1.length ≤ 20 ∧ 0 ≤ r.2.1 := by
  unfold spec_l17List.f
  refine bind_ok (below_ok s p x 12 hs hp (by omega) (by omega)) fun r hr => ?_
  obtain ⟨r2, e, h1, h2⟩ := l17_l0 s hs r.1.toNat k [] r.2.1 r.2.2 (by omega) (by simp; omega) hr.2
  rw [show ((r.1.toNat : Nat) : Int) = r.1 by omega] at e
  exact ⟨r2, e, by simp at h1; omega, h2⟩


theorem any_ok (s : List Int) (p x : Int) (hs : s.length ≤ 1048576) (hp : 0 ≤ p) : ∃ r, spec_l9Any.f s p x = some r ∧ 0 ≤ r.2.2.1 := by
  unfold spec_l9Any.f
  refine bind_ok (pattern_ok s p x hs hp) fun r hr => bind_ok (below_ok s _ _ _ hs hr (by omega) (by omega)) fun r2 hr2 => if_ok (fun _ => ?_) (fun _ => if_ok (fun _ => ?_) (fun _ => ?_))
  · exact bind_ok (raw_ok s _ _ hs hr2.2) fun r3 hr3 => ⟨_, rfl, hr3⟩
  · exact bind_ok (raw_ok s _ _ hs hr2.2) fun r3 hr3 => ⟨_, rfl, hr3⟩
  · exact ⟨_, rfl, hr2.2⟩


theorem l13any_ok (s : List Int) (p x : Int) (hs : s.length ≤ 1048576) (hp : 0 ≤ p) : ∃ r, spec_l13Any.f s p x = some r ∧ 0 ≤ r.2.2.2.2.2.2.2.2.1 := by
  unfold spec_l13Any.f
  refine bind_ok (l13_ok s p x hs hp) fun r1 h1 => bind_ok (below_ok s _ _ _ hs h1 (by omega) (by omega)) fun r2 h2 => ?_
  repeat' first
    | (refine if_ok (fun _ => ?_) (fun _ => ?_))
    | (refine bind_ok (raw_ok s _ _ hs h2.2) fun r3 h3 => ?_)
    | (refine bind_ok (int_ok s _ _ _ hs h2.2 (by decide) (by decide)) fun r3 h3 => ?_)
    | (refine bind_ok (any_ok s _ _ hs h2.2) fun r3 h3 => ?_)
    | (refine bind_ok (site_ok s _ _ hs h2.2) fun r3 h3 => ?_)
    | (refine ⟨_, rfl, ?_⟩; first | exact h2.2 | assumption)


theorem drawCan_ok (k : Nat) (s : List Int) (hs : s.length ≤ 1048576) (hk : s.length + 200 < k) : ∃ r, spec_DrawCanAddRule.f k s = some r ∧ r.1.length ≤ 20 := by
  unfold spec_DrawCanAddRule.f
  refine bind_ok (l1New_ok k s hs (by omega)) fun r hr => ?_
  obtain ⟨e1, e2⟩ := hr
  rw [e1]
  refine bind_ok (l17_ok k s _ _ hs (by omega) (by omega)) fun r2 h2 => bind_ok (l13any_ok s _ _ hs h2.2) fun r3 h3 => if_ok (fun hc => ?_) (fun _ => ⟨_, rfl, h2.1⟩)
  refine bind_ok (once_ok s _ _ 6 hs h3 (by omega) (by omega)) fun r4 h4 => if_ok (fun _ => ?_) (fun _ => ⟨_, rfl, h2.1⟩)
  refine bind_ok (below_ok s _ _ _ hs h4 (by omega) (by omega)) fun r5 h5 => ?_
  rw [if_pos h5.1.1, if_pos h5.1.2]
  exact ⟨_, rfl, h2.1⟩


theorem drawAdd_ok (k : Nat) (s : List Int) (hs : s.length ≤ 1048576) (hk : s.length + 200 < k) : ∃ r, spec_DrawAddRule.f k s = some r ∧ r.1.length ≤ 20 := by
  unfold spec_DrawAddRule.f
  exact bind_ok (drawCan_ok k s hs hk) fun r hr => ⟨_, rfl, hr⟩

def fairPimpl (xs : List S35) (r : S35) : Bool := isRul r.f0 r.f1 r.f2.f0 r.f2.f1 r.f3 r.f4 r.f5.f0 r.f5.f1 && decide (((xs.filter fun y => decide (y.f0 = r.f0)).length : Int) ≤ 6)
theorem impl_IsFair_eq (k : Nat) (xs : List S35) (hn : xs.length ≤ 1048576) (hk : xs.length + (xs.length + 2) < k) : impl_IsFair.f k xs = some (decide (xs.length ≤ 20) && xs.all (fairPimpl xs)) := by
  have L := loop_run (xs.length + 2) (fun k (_ : Unit) i => impl_IsFair.l0 k xs xs (xs.length : Int) i) xs.length (fun _ i => (xs.drop i).all (fairPimpl xs)) (fun _ _ => True) (by omega)
    (fun k u_ i hm hi hI ih => by
      have hd := drop_at xs i hi
      have hr := rdRule_i xs i hi
      have hq := impl_RulesOf_eq k xs (xs[i]).f0 (by omega) (by omega)
      generalize xs[i] = r at hd hr hq
      have ih' := ih () trivial
      try dsimp only at ih'
      simp only [impl_IsFair.l0]
      obtain ⟨k, rfl⟩ : ∃ z, k = z + 2 := ⟨k - 2, by omega⟩
      rw [if_pos (by omega), if_pos (by omega), if_pos (by omega), hr, hq]
      rw [impl_rul]
      simp only [Option.bind_some]
      rw [hd, List.all_cons, ih']
      unfold fairPimpl
      cases isRul r.f0 r.f1 r.f2.f0 r.f2.f1 r.f3 r.f4 r.f5.f0 r.f5.f1
      · simp
      · by_cases h1 : ((xs.filter fun y => decide (y.f0 = r.f0)).length : Int) > 6
        · rw [if_pos rfl, if_pos h1]
          have : decide (((xs.filter fun y => decide (y.f0 = r.f0)).length : Int) ≤ 6) = false := decide_eq_false (by omega)
          simp only [this]; simp
        · rw [if_pos rfl, if_neg h1]
          have : decide (((xs.filter fun y => decide (y.f0 = r.f0)).length : Int) ≤ 6) = true := decide_eq_true (by omega)
          simp only [this]; simp)
    (fun k u_ hm hI => by
      simp only [impl_IsFair.l0]
      rw [if_neg nlt, List.drop_of_length_le (Nat.le_refl _)]
      rfl) k hk () trivial
  try dsimp only at L
  unfold impl_IsFair.f
  by_cases h : xs.length ≤ 20
  · rw [if_neg (by omega), L, List.drop_zero]; simp [h]
  · rw [if_pos (by omega)]; simp [h]

theorem impl_RoomFor_eq (k : Nat) (xs : List S35) (x : Int) (hn : xs.length ≤ 1048576) (hk : xs.length < k) : impl_RoomFor.f k xs x = some (if inR x 1 5 = true then mx 0 (mn (6 - ((xs.filter fun r => decide (r.f0 = x)).length : Int)) (20 - xs.length)) else 0) := by
  have hf := List.length_filter_le (fun r : S35 => decide (r.f0 = x)) xs
  unfold impl_RoomFor.f
  simp (disch := omega) only [impl_in, impl_RulesOf_eq, Option.bind_some]
  cases inR x 1 5
  · rfl
  · simp only [if_true]
    rw [wr (by omega) (by omega), wr (by omega) (by omega)]


theorem drawDrop_ok (k : Nat) (s : List Int) (hs : s.length ≤ 1048576) (hk : s.length + 200 < k) : ∃ r, spec_DrawDropRules.f k s = some r ∧ r.1.length ≤ 20 := by
  unfold spec_DrawDropRules.f
  refine bind_ok (l1New_ok k s hs (by omega)) fun r hr => ?_
  obtain ⟨e1, e2⟩ := hr
  rw [e1]
  exact bind_ok (l17_ok k s _ _ hs (by omega) (by omega)) fun r2 h2 => bind_ok (below_ok s _ _ 5 hs h2.2 (by omega) (by omega)) fun r3 h3 => ⟨_, rfl, h2.1⟩

theorem impl_DropRules_eq (k : Nat) (xs : List S35) (x : Int) (hn : xs.length ≤ 1048576) (hk : xs.length < k) : impl_DropRules.f k xs x = some (xs.filter fun r => !decide (r.f0 = x)) := by
  have L := loop_run 0 (fun k (s : List S35) i => impl_DropRules.l0 k x s xs (xs.length : Int) i) xs.length (fun s i => s ++ (xs.drop i).filter fun r => !decide (r.f0 = x)) (fun s i => s.length ≤ i) (by omega)
    (fun k s i hm hi hI ih => by
      have hd := drop_at xs i hi
      have hr := rdRule_i xs i hi
      generalize xs[i] = r at hd hr
      simp only [impl_DropRules.l0]
      rw [if_pos (by omega), if_pos (by omega), if_pos (by omega)]
      simp only [hr]
      rw [hd]
      by_cases hp : (!decide (r.f0 = x)) = true
      · have hp' := hp
        simp only [Bool.not_eq_true', decide_eq_false_iff_not] at hp; rw [if_neg hp]
        rw [if_pos (by omega), ih _ (by simp; omega)]
        simp only [List.filter_cons, hp', ↓reduceIte, List.append_assoc]
        rfl
      · have hp' := hp
        simp only [Bool.not_eq_true', decide_eq_false_iff_not, Decidable.not_not] at hp; rw [if_pos hp]
        rw [ih _ (by omega)]
        simp only [List.filter_cons, hp', ↓reduceIte, Bool.false_eq_true])
    (fun k s hm hI => by
      simp only [impl_DropRules.l0]
      rw [if_neg nlt, List.drop_of_length_le (Nat.le_refl _)]
      simp) k hk [] (by simp)
  try dsimp only at L
  unfold impl_DropRules.f
  rw [L]
  simp


theorem len_two (x : Int) : ∀ xs : List S35, (xs.filter fun r => !decide (r.f0 = x)).length + (xs.filter fun r => decide (r.f0 = x)).length = xs.length
  | [] => rfl
  | r :: xs => by
    have := len_two x xs
    simp only [List.filter_cons]
    by_cases h : r.f0 = x
    · simp [h]; omega
    · simp [h]; omega
theorem none_left (x : Int) (xs : List S35) : (xs.filter fun r => !decide (r.f0 = x)).filter (fun r => decide (r.f0 = x)) = [] := by
  rw [List.filter_eq_nil_iff]
  intro r hr
  simp only [List.mem_filter] at hr
  intro h
  rw [h] at hr
  simp at hr
theorem eq_self : ∀ xs : List S35, ((xs.zip xs).all fun p => !neqRuleiER p.1 p.2) = true
  | [] => rfl
  | r :: xs => by
    rw [List.zip_cons_cons, List.all_cons, eq_self xs]
    simp [neqRuleiER]
theorem fair_more (xs : List S35) (a b c d e f g h : Int) (hc : canAdd xs a b c d e f g h = true) (hf : xs.all (fairPimpl xs) = true) : (decide ((xs ++ [(⟨a, b, ⟨c, d⟩, e, f, ⟨g, h⟩⟩ : S35)]).length ≤ 20) && (xs ++ [(⟨a, b, ⟨c, d⟩, e, f, ⟨g, h⟩⟩ : S35)]).all (fairPimpl (xs ++ [⟨a, b, ⟨c, d⟩, e, f, ⟨g, h⟩⟩]))) = true := by
  unfold canAdd at hc
  simp only [Bool.and_eq_true, decide_eq_true_eq] at hc
  obtain ⟨_, hr, h6, h20⟩ := hc
  rw [Bool.and_eq_true]
  refine ⟨decide_eq_true (by simp only [List.length_append, List.length_singleton]; omega), ?_⟩
  rw [List.all_append, Bool.and_eq_true]
  have key : ∀ z : Int, ((xs ++ [(⟨a, b, ⟨c, d⟩, e, f, ⟨g, h⟩⟩ : S35)]).filter fun y => decide (y.f0 = z)).length = (xs.filter fun y => decide (y.f0 = z)).length + (if a = z then 1 else 0) := by
    intro z
    rw [List.filter_append, List.length_append]
    by_cases hz : a = z <;> simp [hz]
  have hlen : ∀ z : Int, ((xs.filter fun y => decide (y.f0 = z)).length : Int) ≤ 6 → (((xs ++ [(⟨a, b, ⟨c, d⟩, e, f, ⟨g, h⟩⟩ : S35)]).filter fun y => decide (y.f0 = z)).length : Int) ≤ 6 := by
    intro z hz
    rw [key]
    by_cases hza : a = z
    · subst hza; rw [if_pos rfl]; omega
    · rw [if_neg hza]; omega
  constructor
  · rw [List.all_eq_true] at hf ⊢
    intro r hrm
    have := hf r hrm
    unfold fairPimpl at this ⊢
    rw [Bool.and_eq_true] at this ⊢
    exact ⟨this.1, decide_eq_true (hlen _ (of_decide_eq_true this.2))⟩
  · simp only [List.all_cons, List.all_nil, Bool.and_true]
    unfold fairPimpl
    rw [Bool.and_eq_true]
    exact ⟨hr, decide_eq_true (hlen a (by omega))⟩
theorem quotas_j0 (k : Nat) (s : List Int) (hs : s.length ≤ 1048576) (hk : s.length + 300 < k) : laws_FnQuotas.j0 k s false = some true := by
  obtain ⟨k, rfl⟩ : ∃ m, k = m + 1 := ⟨k - 1, by omega⟩
  simp only [laws_FnQuotas.j0]
  rw [if_neg (by decide)]
  obtain ⟨⟨xs, x⟩, e, hl⟩ := drawDrop_ok k s hs (by omega)
  rw [e, Option.bind_some]
  dsimp only at hl ⊢
  have h2 := len_two x xs
  rw [impl_DropRules_eq k xs x (by omega) (by omega), Option.bind_some, impl_RulesOf_eq k xs x (by omega) (by omega), Option.bind_some, wr (by omega) (by omega), if_pos (by omega),
    impl_RulesOf_eq k _ x (by omega) (by omega), Option.bind_some, none_left, if_pos (by simp), impl_RoomFor_eq k _ x (by omega) (by omega), Option.bind_some, none_left, impl_RoomFor_eq k _ x (by omega) (by omega), Option.bind_some]
  rw [if_pos, Option.bind_some]
  · congr 1
    apply decide_eq_true
    split
    · unfold mx; split <;> omega
    · omega
  · split
    · show mx 0 (mn (6 - ((0 : Nat) : Int)) _) ≥ _
      unfold mx mn; repeat' split
      all_goals omega
    · omega
theorem FnQuotas : laws_FnQuotas.Pure := by
  intro l0 _ _ _
  obtain ⟨K, hK⟩ : ∃ K, K = l0.length + 5000 := ⟨_, rfl⟩
  refine ⟨K, ?_⟩
  unfold laws_FnQuotas.f
  simp only [laws_big.f, Option.bind_some]
  by_cases hb : (l0.length : Int) > 1048576
  · rw [if_pos (decide_eq_true hb)]
  · rw [if_neg (by rw [decide_eq_false hb]; decide)]
    obtain ⟨⟨xs, a, b, c, d, e, f, g, h⟩, e1, hl⟩ := drawAdd_ok K l0 (by omega) (by omega)
    rw [e1, Option.bind_some]
    dsimp only at hl ⊢
    have hj := quotas_j0 K l0 (by omega) (by omega)
    rw [impl_AddRule_eq K xs _ _ _ _ _ _ _ _ (by omega) (by omega), Option.bind_some, impl_CanAddRule_eq K xs _ _ _ _ _ _ _ _ (by omega) (by omega), Option.bind_some]
    unfold addR
    cases hc : canAdd xs a b c d e f g h
    · rw [if_neg (show ¬ (false = true) by decide)]
      dsimp only
      rw [if_neg (show ¬ ((false != false) = true) by decide), if_neg (show ¬ (false = true) by decide), impl_EqualRules_eq K xs xs (by omega) (by omega), Option.bind_some, eq_self, decide_eq_true rfl]
      exact hj
    · rw [if_pos rfl]
      dsimp only
      have hc' := hc
      unfold canAdd at hc'
      simp only [Bool.and_eq_true, decide_eq_true_eq] at hc'
      obtain ⟨_, hr, h6, h20⟩ := hc'
      have hin : inR a 1 5 = true := by
        unfold isRul at hr; rw [Bool.and_eq_true] at hr; exact hr.1
      have hroom : impl_RoomFor.f K xs a = some (mx 0 (mn (6 - ((xs.filter fun r => decide (r.f0 = a)).length : Int)) (20 - xs.length))) := by
        rw [impl_RoomFor_eq K xs a (by omega) (by omega), if_pos hin]
      have hge : ¬ mx 0 (mn (6 - ((xs.filter fun r => decide (r.f0 = a)).length : Int)) (20 - xs.length)) < 1 := by
        unfold mx mn; repeat' split
        all_goals omega
      have hlen : ((xs ++ [(⟨a, b, ⟨c, d⟩, e, f, ⟨g, h⟩⟩ : S35)]).length : Int) = wrap64 ((xs.length : Int) + 1) := by
        rw [wr (by omega) (by omega)]; simp
      rw [if_neg (by decide), if_pos rfl, impl_IsFair_eq K xs (by omega) (by omega), Option.bind_some]
      split
      · next hf =>
        rw [Bool.and_eq_true] at hf
        rw [impl_IsFair_eq K _ (by simp; omega) (by simp; omega), Option.bind_some, if_pos (fair_more xs a b c d e f g h hc hf.2), hroom, Option.bind_some, if_neg hge, hj]
      · rw [hroom, Option.bind_some, if_neg hge, hj]

end Go.Proofs.Ytacgichgadoddaa.Pure
