/- The printed function of the law FnExactIsWithinGrants answers true, for all arguments, under no condition but that each whole number is one of its kind and that each slice has a length that fits. -/
import Derived.Test.YtbnkgcllfkicjaaQFnExactIsWithinGrantsx4
namespace Go.Proofs.Ytbnkgcllfkicjaa.Pure
open Go.RowKit Go.Proofs.Ytbnkgcllfkicjaa.QFnExactIsWithinGrants Go.Proofs.YtbnkgcllfkicjaaW.PrintWords Go.Proofs.YtbnkgcllfkicjaaW.PrintLast
set_option linter.unusedVariables false
set_option linter.unusedSimpArgs false
theorem wr {i : Int} (h0 : -9223372036854775808 ≤ i) (h1 : i ≤ 9223372036854775807) : wrap64 i = i := by unfold wrap64; omega
theorem beq_dec (a b : Int) : (a == b) = decide (a = b) := by by_cases h : a = b <;> simp [h]
theorem and_if (p : Prop) [Decidable p] (c : Bool) : (if p then some c else some false) = some (decide p && c) := by
  by_cases h : p <;> simp [h]
theorem or_if (p : Prop) [Decidable p] (c : Bool) : (if p then some true else some c) = some (decide p || c) := by
  by_cases h : p <;> simp [h]
def inR (a b c : Int) : Bool := decide (b ≤ a) && decide (a ≤ c)
def isPat (o s : Int) : Bool := inR o 0 9 && inR s (-1) 9
def isSit (o s : Int) : Bool := inR o 1 9 && inR s 0 9
def mtch (po ps o s : Int) : Bool := isPat po ps && (isSit o s && ((decide (po = 0) || decide (po = o)) && (decide (ps = -1) || decide (ps = s))))
def narr (po ps qo qs : Int) : Bool := isPat po ps && (isPat qo qs && ((decide (qo = 0) || decide (po = qo)) && (decide (qs = -1) || decide (ps = qs))))
def isGra (e po ps k f u : Int) : Bool := inR e 1 5 && (isPat po ps && (inR k 1 4 && (decide (0 ≤ f) && (decide (f ≤ u) && decide (u ≤ 10000)))))
def isLim (e po ps k : Int) : Bool := inR e 0 5 && (isPat po ps && inR k 0 4)
def covr (e po ps k f u : Int) (cl : Bool) (ext o s kind tick : Int) (ck : Bool) : Bool :=
  isGra e po ps k f u && (decide (e = ext) && (decide (k = kind) && (mtch po ps o s && (inR tick f u && (ck || !cl)))))
def isRul (e p po ps s a o b : Int) : Bool :=
  inR e 1 5 && (inR p 1 9 && (isPat po ps && (inR s 0 4 && ((decide (a = 1) || decide (a = 2)) && (decide (o = 0) && decide (b = 0)) || decide (a = 3) && isSit o b))))
def isReq (o s t : Int) : Bool := isSit o s && inR t 1 4
def appl (e p po ps s a o b qo qs qt : Int) : Bool := isRul e p po ps s a o b && (isReq qo qs qt && (mtch po ps qo qs && (decide (s = 0) || decide (s = qt))))
def isLen (e po ps k f u : Int) (cl : Bool) : Bool := isGra e po ps k f u && (decide (po ≠ 0) && (decide (ps ≠ -1) && ((decide (k = 1) || decide (k = 2)) && (decide (u = f + 5) && !cl))))
def isLab (x : Int) : Bool := inR x 0 1022 && decide (Int.tmod x 2 = 0)
def befo (ae ap aa ao ab be bp ba bo bb : Int) : Bool :=
  if ap = bp then (if aa = ba then (if ae = be then (if ao = bo then decide (ab < bb) else decide (ao < bo)) else decide (ae < be)) else decide (aa < ba)) else decide (bp < ap)
def within (e po ps k f u : Int) (cl : Bool) (e' po' ps' k' f' u' : Int) (cl' : Bool) : Bool :=
  isGra e po ps k f u && (isGra e' po' ps' k' f' u' && (decide (e = e') && (decide (k = k') && (narr po ps po' ps' && (decide (f' ≤ f) && (decide (u ≤ u') && (cl || !cl')))))))
theorem take_set1 {α : Type} (s : List α) (i : Nat) (v : α) (h : i < s.length) : (s.set i v).take (i + 1) = s.take i ++ [v] := by
  rw [List.take_succ_eq_append_getElem (by simpa using h), List.take_set, List.set_eq_of_length_le (by simp; omega)]
  simp
theorem loop_up {σ ρ : Type} (g : Nat → σ → Int → Option ρ) (n : Nat) (out : σ → Nat → ρ) (I : σ → Nat → Prop) (hn : n ≤ 9223372036854775806)
    (hstep : ∀ (k : Nat) (s : σ) (i : Nat), i < n → I s i → (∀ s', I s' (i + 1) → g k s' (wrap64 ((i : Int) + 1)) = some (out s' (i + 1))) → g (k + 1) s (i : Int) = some (out s i))
    (hend : ∀ (k : Nat) (s : σ), I s n → g (k + 1) s (n : Int) = some (out s n)) :
    ∀ (d k : Nat) (s : σ) (i : Nat), i + d = n → d < k → I s i → g k s (i : Int) = some (out s i) := by
  intro d
  induction d with
  | zero =>
    intro k s i hi hk hI
    obtain ⟨k, rfl⟩ : ∃ m, k = m + 1 := ⟨k - 1, by omega⟩
    obtain rfl : i = n := by omega
    exact hend k s hI
  | succ d ih =>
    intro k s i hi hk hI
    obtain ⟨k, rfl⟩ : ∃ m, k = m + 1 := ⟨k - 1, by omega⟩
    refine hstep k s i (by omega) hI fun s' hI' => ?_
    have := ih k s' (i + 1) (by omega) (by omega) hI'
    rw [wr (by omega) (by omega)]
    exact_mod_cast this
theorem loop_from {σ ρ : Type} {g : Nat → σ → Int → Option ρ} {n : Nat} {out : σ → Nat → ρ} {I : σ → Nat → Prop} (h : ∀ (d k : Nat) (s : σ) (i : Nat), i + d = n → d < k → I s i → g k s (i : Int) = some (out s i))
    (k : Nat) (hk : n < k) (s : σ) (hI : I s 0) : g k s 0 = some (out s 0) := by
  have := h n k s 0 (by omega) hk hI
  exact_mod_cast this
theorem drop_at {α : Type} (xs : List α) (i : Nat) (h : i < xs.length) : xs.drop i = xs[i] :: xs.drop (i + 1) := List.drop_eq_getElem_cons h

theorem nlt {n : Nat} : ¬ (n : Int) < (n : Int) := by omega
/-- where a list is copied element by element into a made one -/
theorem rd_at {α : Type} (z : α) (xs : List α) (i : Nat) (h : i < xs.length) : xs.getD (i : Int).toNat z = xs[i] := by simp [h]

theorem loop_upm {σ ρ : Type} (m : Nat) (g : Nat → σ → Int → Option ρ) (n : Nat) (out : σ → Nat → ρ) (I : σ → Nat → Prop) (hn : n ≤ 9223372036854775806)
    (hstep : ∀ (k : Nat) (s : σ) (i : Nat), m ≤ k → i < n → I s i → (∀ s', I s' (i + 1) → g k s' (wrap64 ((i : Int) + 1)) = some (out s' (i + 1))) → g (k + 1) s (i : Int) = some (out s i))
    (hend : ∀ (k : Nat) (s : σ), m ≤ k → I s n → g (k + 1) s (n : Int) = some (out s n)) :
    ∀ (d k : Nat) (s : σ) (i : Nat), i + d = n → d + m < k → I s i → g k s (i : Int) = some (out s i) := by
  intro d
  induction d with
  | zero =>
    intro k s i hi hk hI
    obtain ⟨k, rfl⟩ : ∃ m, k = m + 1 := ⟨k - 1, by omega⟩
    obtain rfl : i = n := by omega
    exact hend k s (by omega) hI
  | succ d ih =>
    intro k s i hi hk hI
    obtain ⟨k, rfl⟩ : ∃ m, k = m + 1 := ⟨k - 1, by omega⟩
    refine hstep k s i (by omega) (by omega) hI fun s' hI' => ?_
    have := ih k s' (i + 1) (by omega) (by omega) hI'
    rw [wr (by omega) (by omega)]
    exact_mod_cast this
theorem loop_fromm {σ ρ : Type} {m : Nat} {g : Nat → σ → Int → Option ρ} {n : Nat} {out : σ → Nat → ρ} {I : σ → Nat → Prop} (h : ∀ (d k : Nat) (s : σ) (i : Nat), i + d = n → d + m < k → I s i → g k s (i : Int) = some (out s i))
    (k : Nat) (hk : n + m < k) (s : σ) (hI : I s 0) : g k s 0 = some (out s 0) := by
  have := h n k s 0 (by omega) hk hI
  exact_mod_cast this
theorem loop_run {σ ρ : Type} (m : Nat) (g : Nat → σ → Int → Option ρ) (n : Nat) (out : σ → Nat → ρ) (I : σ → Nat → Prop) (hn : n ≤ 9223372036854775806)
    (hstep : ∀ (k : Nat) (s : σ) (i : Nat), m ≤ k → i < n → I s i → (∀ s', I s' (i + 1) → g k s' (wrap64 ((i : Int) + 1)) = some (out s' (i + 1))) → g (k + 1) s (i : Int) = some (out s i))
    (hend : ∀ (k : Nat) (s : σ), m ≤ k → I s n → g (k + 1) s (n : Int) = some (out s n)) (k : Nat) (hk : n + m < k) (s : σ) (hI : I s 0) : g k s 0 = some (out s 0) :=
  loop_fromm (loop_upm m g n out I hn hstep hend) k hk s hI
theorem if_and2 {α : Type} (a : Bool) (p : Prop) [Decidable p] (x y : α) : (if a = true then (if p then x else y) else y) = if (a && decide p) = true then x else y := by
  cases a <;> by_cases h : p <;> simp [h]

theorem if_nand {α : Type} (a b : Bool) (x y : α) : (if a = true then (if b = true then y else x) else x) = if (!(a && b)) = true then x else y := by
  cases a <;> cases b <;> simp
theorem rdPattern_l (xs : List S72) (i : Nat) (h : i < xs.length) : rd_T72 xs (i : Int) = xs[i] := rd_at _ xs i h
theorem rdGrant_l (xs : List S87) (i : Nat) (h : i < xs.length) : rd_T87 xs (i : Int) = xs[i] := rd_at _ xs i h
theorem rdPattern_i (xs : List S66) (i : Nat) (h : i < xs.length) : rd_T66 xs (i : Int) = xs[i] := rd_at _ xs i h
theorem rdGrant_i (xs : List S84) (i : Nat) (h : i < xs.length) : rd_T84 xs (i : Int) = xs[i] := rd_at _ xs i h

def witS (x y : S84) : Bool := within x.f0 x.f1.f0 x.f1.f1 x.f2 x.f3 x.f4 x.f5 y.f0 y.f1.f0 y.f1.f1 y.f2 y.f3 y.f4 y.f5
def witM (xs ys : List S84) : Bool := xs.all fun x => ys.any fun y => witS x y

theorem szGrant (xs : List S87) (a : Int) (h0 : 0 ≤ a) (h1 : a ≤ 1048576) (hl : xs.length ≤ 9223372036854775807) : laws_szGrantS.f xs a = some (if a < xs.length then -1 else a - xs.length) := by
  unfold laws_szGrantS.f
  rw [wr (by omega) (by omega)]
  by_cases h : a < xs.length
  · rw [if_pos (by omega), if_pos h]
  · rw [if_neg (by omega), if_neg h]

theorem spec_in (a b c : Int) : spec_l1In.f a b c = some (inR a b c) := by
  unfold spec_l1In.f inR; exact and_if _ _

theorem spec_pat (a b : Int) : spec_IsPattern.f a b = some (isPat a b) := by
  unfold spec_IsPattern.f isPat; simp only [spec_in, Option.bind_some]; cases inR a 0 9 <;> simp

theorem spec_gra (e po ps k f u : Int) (c : Bool) : spec_IsGrant.f e po ps k f u c = some (isGra e po ps k f u) := by
  unfold spec_IsGrant.f isGra; simp only [spec_in, spec_pat, Option.bind_some]
  cases inR e 1 5 <;> cases isPat po ps <;> cases inR k 1 4 <;> simp
  by_cases h1 : 0 ≤ f <;> by_cases h2 : f ≤ u <;> simp [h1, h2]

theorem spec_narr (a b c d : Int) : spec_IsNarrower.f a b c d = some (narr a b c d) := by
  unfold spec_IsNarrower.f narr; simp only [spec_pat, Option.bind_some]
  cases isPat a b <;> cases isPat c d <;> simp
  by_cases h1 : c = 0 <;> by_cases h2 : a = c <;> by_cases h3 : d = -1 <;> simp [h1, h2, h3] <;> simp [beq_dec]

theorem spec_within (e po ps k f u : Int) (cl : Bool) (e' po' ps' k' f' u' : Int) (cl' : Bool) : spec_l11Within.f e po ps k f u cl e' po' ps' k' f' u' cl' = some (within e po ps k f u cl e' po' ps' k' f' u' cl') := by
  unfold spec_l11Within.f within
  simp only [spec_gra, spec_narr, Option.bind_some]
  cases isGra e po ps k f u <;> cases isGra e' po' ps' k' f' u' <;> cases narr po ps po' ps' <;> cases cl <;>
    by_cases h1 : e = e' <;> by_cases h2 : k = k' <;> by_cases h3 : f' ≤ f <;> by_cases h4 : u ≤ u' <;> simp [h1, h2, h3, h4]

theorem spec_wit_in (xs ys : List S84) (hn : ys.length ≤ 1048576) (a : Nat) (ha : a < xs.length) (R : Bool) (B : Nat)
    (H : ∀ k, B ≤ k → spec_IsWithinGrants.l0 k xs ys (wrap64 ((a : Int) + 1)) = some R) :
    ∀ (d k b : Nat) (c : Bool), b + d = ys.length → d + B < k → spec_IsWithinGrants.l1 k xs ys a c b = some ((c || (ys.drop b).any fun y => witS xs[a] y) && R) := by
  intro d
  induction d with
  | zero =>
    intro k b c hb hk
    obtain ⟨k, rfl⟩ : ∃ m, k = m + 1 := ⟨k - 1, by omega⟩
    simp only [spec_IsWithinGrants.l1]
    rw [if_neg (by omega), H k (by omega), List.drop_of_length_le (by omega)]
    cases c <;> simp
  | succ d ih =>
    intro k b c hb hk
    obtain ⟨k, rfl⟩ : ∃ m, k = m + 1 := ⟨k - 1, by omega⟩
    have hr := rdGrant_i xs a ha
    have hq := rdGrant_i ys b (by omega)
    have hd := drop_at ys b (by omega)
    have hw : wrap64 ((b : Int) + 1) = ((b + 1 : Nat) : Int) := by rw [wr (by omega) (by omega)]; omega
    simp only [spec_IsWithinGrants.l1]
    rw [if_pos (by omega), hw]
    cases c with
    | true =>
      rw [if_pos rfl, ih k (b + 1) true (by omega) (by omega)]
      simp
    | false =>
      rw [if_neg (by simp), if_pos (by omega), if_pos (by omega), if_pos (by omega), hr, hq, spec_within]
      simp only [Option.bind_some]
      rw [ih k (b + 1) _ (by omega) (by omega), hd, List.any_cons]
      simp only [witS, Bool.false_or]
theorem spec_wit_out (xs ys : List S84) (hn : ys.length ≤ 1048576) (hx : xs.length ≤ 1048576) :
    ∀ (d k a : Nat), a + d = xs.length → d * (ys.length + 2) < k → spec_IsWithinGrants.l0 k xs ys a = some (witM (xs.drop a) ys) := by
  intro d
  induction d with
  | zero =>
    intro k a ha hk
    obtain ⟨k, rfl⟩ : ∃ m, k = m + 1 := ⟨k - 1, by omega⟩
    simp only [spec_IsWithinGrants.l0]
    rw [if_neg (by omega), List.drop_of_length_le (by omega)]
    rfl
  | succ d ih =>
    intro k a ha hk
    obtain ⟨k, rfl⟩ : ∃ m, k = m + 1 := ⟨k - 1, by omega⟩
    have hm : (d + 1) * (ys.length + 2) = d * (ys.length + 2) + (ys.length + 2) := Nat.succ_mul _ _
    have hd := drop_at xs a (by omega)
    simp only [spec_IsWithinGrants.l0]
    rw [if_pos (by omega)]
    have := spec_wit_in xs ys hn a (by omega) _ (d * (ys.length + 2) + 1) (fun k' hk' => by rw [wr (by omega) (by omega), show ((a : Int) + 1) = ((a + 1 : Nat) : Int) by omega]; exact ih k' (a + 1) (by omega) (by omega)) ys.length k 0 false (by omega) (by omega)
    rw [show ((0 : Nat) : Int) = 0 from rfl] at this
    rw [this, hd]
    simp only [witM, List.all_cons, Bool.false_or, List.drop_zero]
theorem spec_wit (k : Nat) (xs ys : List S84) (hx : xs.length ≤ 1048576) (hn : ys.length ≤ 1048576) (hk : xs.length * (ys.length + 2) < k) : spec_IsWithinGrants.f k xs ys = some (witM xs ys) := by
  unfold spec_IsWithinGrants.f
  have := spec_wit_out xs ys hn hx xs.length k 0 (by omega) hk
  rw [show ((0 : Nat) : Int) = 0 from rfl] at this
  rw [this, List.drop_zero]

theorem toGrant_eq (a0 : Int) (a1 : Int) (a2 : Int) (a3 : Int) (a4 : Int) (a5 : Int) (a6 : Bool) : laws_toGrant.f a0 a1 a2 a3 a4 a5 a6 = some (a0, a1, a2, a3, a4, a5, a6) := by
  unfold laws_toGrant.f laws_toPattern.f; rfl

def cvGrant (r : S87) : S84 := ⟨r.f0, ⟨r.f1.f0, r.f1.f1⟩, r.f2, r.f3, r.f4, r.f5⟩
theorem toGrantS_eq (k : Nat) (xs : List S87) (hn : xs.length ≤ 1048576) (hk : xs.length < k) : laws_toGrantS.f k xs = some (xs.map cvGrant) := by
  have L := loop_up (fun k (s : List S84) i => laws_toGrantS.l0 k xs s i) xs.length (fun s i => s.take i ++ (xs.drop i).map cvGrant) (fun s _ => s.length = xs.length) (by omega)
    (fun k s i hi hI ih => by
      simp only [laws_toGrantS.l0]
      rw [if_pos (by omega), if_pos (by omega), rdGrant_l xs i hi, toGrant_eq]
      simp only [Option.bind_some]
      rw [if_pos (by omega), ih _ (by simp [hI]), Int.toNat_natCast, take_set1 _ _ _ (by omega), drop_at xs i hi, List.map_cons, List.append_assoc]
      rfl)
    (fun k s hI => by
      simp only [laws_toGrantS.l0]
      rw [if_neg nlt, List.drop_of_length_le (Nat.le_refl _), List.take_of_length_le (by omega)]
      simp)
  unfold laws_toGrantS.f
  rw [if_pos (by omega), if_pos (by omega)]
  rw [loop_from L k hk _ (by simp)]
  simp

theorem impl_in (a b c : Int) : impl_InRange.f a b c = some (inR a b c) := by
  unfold impl_InRange.f inR; exact and_if _ _

theorem impl_pat (a b : Int) : impl_IsPattern.f a b = some (isPat a b) := by
  unfold impl_IsPattern.f isPat; simp only [impl_in, Option.bind_some]; cases inR a 0 9 <;> simp

theorem impl_gra (e po ps k f u : Int) (c : Bool) : impl_IsGrant.f e po ps k f u c = some (isGra e po ps k f u) := by
  unfold impl_IsGrant.f isGra; simp only [impl_in, impl_pat, Option.bind_some]
  cases inR e 1 5 <;> cases isPat po ps <;> cases inR k 1 4 <;> simp
  by_cases h1 : 0 ≤ f <;> by_cases h2 : f ≤ u <;> simp [h1, h2]

theorem impl_narr (a b c d : Int) : impl_IsNarrower.f a b c d = some (narr a b c d) := by
  unfold impl_IsNarrower.f narr; simp only [impl_pat, Option.bind_some]
  cases isPat a b <;> cases isPat c d <;> simp
  by_cases h1 : c = 0 <;> by_cases h2 : a = c <;> by_cases h3 : d = -1 <;> simp [h1, h2, h3] <;> simp [beq_dec]

theorem impl_wit_in (xs ys : List S84) (hn : ys.length ≤ 1048576) (x : S84) (c : Bool) (n a : Int) (R : Bool) (B : Nat)
    (H : ∀ k, B ≤ k → impl_IsWithinGrants.l0 k ys xs n (wrap64 (a + 1)) = some R) :
    ∀ (d k b : Nat), b + d = ys.length → d + B < k → impl_IsWithinGrants.l1 k ys false xs n a ys (ys.length : Int) b x.f0 x.f1.f0 x.f1.f1 x.f2 x.f3 x.f4 x.f5 = some (((ys.drop b).any fun y => witS x y) && R) := by
  intro d
  induction d with
  | zero =>
    intro k b hb hk
    obtain ⟨k, rfl⟩ : ∃ m, k = m + 1 := ⟨k - 1, by omega⟩
    simp only [impl_IsWithinGrants.l1]
    rw [if_neg (by omega), List.drop_of_length_le (by omega)]
    simp
  | succ d ih =>
    intro k b hb hk
    obtain ⟨k, rfl⟩ : ∃ m, k = m + 1 := ⟨k - 1, by omega⟩
    have hq := rdGrant_i ys b (by omega)
    have hd := drop_at ys b (by omega)
    have e := ih k (b + 1) (by omega) (by omega)
    have e2 := H k (by omega)
    simp only [impl_IsWithinGrants.l1]
    have hw : wrap64 ((b : Int) + 1) = ((b + 1 : Nat) : Int) := by rw [wr (by omega) (by omega)]; omega
    rw [if_pos (by omega), if_pos (by omega), if_pos (by omega), hw, e, e2, hq, hd, List.any_cons]
    generalize ys[b]'(by omega) = y
    simp only [impl_gra, impl_narr, Option.bind_some]
    unfold witS within
    cases isGra x.f0 x.f1.f0 x.f1.f1 x.f2 x.f3 x.f4 <;> cases isGra y.f0 y.f1.f0 y.f1.f1 y.f2 y.f3 y.f4 <;> cases narr x.f1.f0 x.f1.f1 y.f1.f0 y.f1.f1 <;> cases x.f5 <;> cases y.f5 <;>
      by_cases h1 : x.f0 = y.f0 <;> by_cases h2 : x.f2 = y.f2 <;> by_cases h3 : y.f3 ≤ x.f3 <;> by_cases h4 : x.f4 ≤ y.f4 <;> simp [h1, h2, h3, h4]
theorem impl_wit_out (xs ys : List S84) (hn : ys.length ≤ 1048576) (hx : xs.length ≤ 1048576) :
    ∀ (d k a : Nat), a + d = xs.length → d * (ys.length + 2) < k → impl_IsWithinGrants.l0 k ys xs (xs.length : Int) a = some (witM (xs.drop a) ys) := by
  intro d
  induction d with
  | zero =>
    intro k a ha hk
    obtain ⟨k, rfl⟩ : ∃ m, k = m + 1 := ⟨k - 1, by omega⟩
    simp only [impl_IsWithinGrants.l0]
    rw [if_neg (by omega), List.drop_of_length_le (by omega)]
    rfl
  | succ d ih =>
    intro k a ha hk
    obtain ⟨k, rfl⟩ : ∃ m, k = m + 1 := ⟨k - 1, by omega⟩
    have hm : (d + 1) * (ys.length + 2) = d * (ys.length + 2) + (ys.length + 2) := Nat.succ_mul _ _
    have hd := drop_at xs a (by omega)
    have hr := rdGrant_i xs a (by omega)
    simp only [impl_IsWithinGrants.l0]
    rw [if_pos (by omega), if_pos (by omega), if_pos (by omega), hr]
    have := impl_wit_in xs ys hn (xs[a]'(by omega)) false (xs.length : Int) a _ (d * (ys.length + 2) + 1) (fun k' hk' => by rw [wr (by omega) (by omega), show ((a : Int) + 1) = ((a + 1 : Nat) : Int) by omega]; exact ih k' (a + 1) (by omega) (by omega)) ys.length k 0 (by omega) (by omega)
    rw [show ((0 : Nat) : Int) = 0 from rfl] at this
    rw [this, hd]
    simp only [witM, List.all_cons, Bool.false_or, List.drop_zero]
theorem impl_wit (k : Nat) (xs ys : List S84) (hx : xs.length ≤ 1048576) (hn : ys.length ≤ 1048576) (hk : xs.length * (ys.length + 2) < k) : impl_IsWithinGrants.f k xs ys = some (witM xs ys) := by
  unfold impl_IsWithinGrants.f
  have := impl_wit_out xs ys hn hx xs.length k 0 (by omega) hk
  rw [show ((0 : Nat) : Int) = 0 from rfl] at this
  rw [this, List.drop_zero]

theorem eqGrant_self (a0 : Int) (a1 : Int) (a2 : Int) (a3 : Int) (a4 : Int) (a5 : Int) (a6 : Bool) : laws_eqGrant.f a0 a1 a2 a3 a4 a5 a6 a0 a1 a2 a3 a4 a5 a6 = some true := by
  simp [laws_eqGrant.f, laws_eqPattern.f]

theorem eqGrantS_self (k : Nat) (xs : List S84) (hn : xs.length ≤ 1048576) (hk : xs.length < k) : laws_eqGrantS.f k xs xs = some true := by
  have L := loop_up (fun k (_ : Unit) i => laws_eqGrantS.l0 k xs xs i) xs.length (fun _ _ => true) (fun _ _ => True) (by omega)
    (fun k s i hi hI ih => by
      simp only [laws_eqGrantS.l0]
      rw [if_pos (by omega), if_pos (by omega), if_pos (by omega)]
      simp only [eqGrant_self, Option.bind_some, if_true]
      exact ih () trivial)
    (fun k s hI => by
      simp only [laws_eqGrantS.l0]
      rw [if_neg nlt])
  unfold laws_eqGrantS.f
  rw [if_pos rfl]
  exact loop_from L k hk () trivial


theorem FnExactIsWithinGrants (l q : List S87) (hm : l.length ≤ 9223372036854775807) {g : S87 → Prop} (hg : ∀ y ∈ l, g y) (hm2 : q.length ≤ 9223372036854775807) (hg2 : ∀ y ∈ q, g y) : ∃ k, laws_FnExactIsWithinGrants.f k l q = some true := by
  refine ⟨l.length * (q.length + 2) + l.length + q.length + 10, ?_⟩
  unfold laws_FnExactIsWithinGrants.f
  rw [szGrant l 1048576 (by omega) (by omega) hm]
  simp only [Option.bind_some]
  by_cases hb : (1048576 : Int) < l.length
  · rw [if_pos hb, if_pos (by omega)]
  · rw [if_neg hb, if_neg (by omega)]
    rw [szGrant q _ (by omega) (by omega) hm2]
    simp only [Option.bind_some]
    by_cases hb2 : (1048576 : Int) - l.length < q.length
    · rw [if_pos hb2, if_pos (by omega)]
    · rw [if_neg hb2, if_neg (by omega)]
      have hl : l.length ≤ 1048576 := by omega
      have hq : q.length ≤ 1048576 := by omega
      have hc : (l.map cvGrant).length = l.length := by simp
      have hc2 : (q.map cvGrant).length = q.length := by simp
      have hk2 : (l.map cvGrant).length * ((q.map cvGrant).length + 2) < l.length * (q.length + 2) + l.length + q.length + 10 := by rw [hc, hc2]; omega
      simp (disch := omega) only [toGrantS_eq, impl_wit, spec_wit, Option.bind_some, bne_self_eq_false, Bool.false_eq_true, if_false, eqGrantS_self, if_true]

end Go.Proofs.Ytbnkgcllfkicjaa.Pure
