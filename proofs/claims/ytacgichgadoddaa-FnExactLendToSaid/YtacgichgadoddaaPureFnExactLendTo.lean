/- The printed function of the law FnExactLendTo answers true, for all arguments, under no condition but that each whole number is one of its kind and that each slice has a length that fits. -/
import Derived.Test.YtacgichgadoddaaQLx23
namespace Go.Proofs.Ytacgichgadoddaa.Pure
open Go.RowKit Go.Proofs.Ytacgichgadoddaa.QL Go.Proofs.YtacgichgadoddaaW.PrintWords Go.Proofs.YtacgichgadoddaaW.PrintLast
set_option linter.unusedVariables false
set_option linter.unusedSimpArgs false
theorem wr {i : Int} (h0 : -9223372036854775808 ≤ i) (h1 : i ≤ 9223372036854775807) : wrap64 i = i := by unfold wrap64; omega
theorem beq_dec (a b : Int) : (a == b) = decide (a = b) := by by_cases h : a = b <;> simp [h]
theorem and_if (p : Prop) [Decidable p] (c : Bool) : (if p then some c else some false) = some (decide p && c) := by
  by_cases h : p <;> simp [h]
theorem or_if (p : Prop) [Decidable p] (c : Bool) : (if p then some true else some c) = some (decide p || c) := by
  by_cases h : p <;> simp [h]
def inR (a b c : Int) : Bool := decide (b ≤ a) && decide (a ≤ c)
def isPat (o s : Int) : Bool := inR o 0 9 && inR s (-1) 9
def isSit (o s : Int) : Bool := inR o 1 9 && inR s 0 9
def mtch (po ps o s : Int) : Bool := isPat po ps && (isSit o s && ((decide (po = 0) || decide (po = o)) && (decide (ps = -1) || decide (ps = s))))
def narr (po ps qo qs : Int) : Bool := isPat po ps && (isPat qo qs && ((decide (qo = 0) || decide (po = qo)) && (decide (qs = -1) || decide (ps = qs))))
def isGra (e po ps k f u : Int) : Bool := inR e 1 5 && (isPat po ps && (inR k 1 4 && (decide (0 ≤ f) && (decide (f ≤ u) && decide (u ≤ 10000)))))
def isLim (e po ps k : Int) : Bool := inR e 0 5 && (isPat po ps && inR k 0 4)
def covr (e po ps k f u : Int) (cl : Bool) (ext o s kind tick : Int) (ck : Bool) : Bool :=
  isGra e po ps k f u && (decide (e = ext) && (decide (k = kind) && (mtch po ps o s && (inR tick f u && (ck || !cl)))))
def isRul (e p po ps s a o b : Int) : Bool :=
  inR e 1 5 && (inR p 1 9 && (isPat po ps && (inR s 0 4 && ((decide (a = 1) || decide (a = 2)) && (decide (o = 0) && decide (b = 0)) || decide (a = 3) && isSit o b))))
def isReq (o s t : Int) : Bool := isSit o s && inR t 1 4
def appl (e p po ps s a o b qo qs qt : Int) : Bool := isRul e p po ps s a o b && (isReq qo qs qt && (mtch po ps qo qs && (decide (s = 0) || decide (s = qt))))
def isLen (e po ps k f u : Int) (cl : Bool) : Bool := isGra e po ps k f u && (decide (po ≠ 0) && (decide (ps ≠ -1) && ((decide (k = 1) || decide (k = 2)) && (decide (u = f + 5) && !cl))))
def isLab (x : Int) : Bool := inR x 0 1022 && decide (Int.tmod x 2 = 0)
def befo (ae ap aa ao ab be bp ba bo bb : Int) : Bool :=
  if ap = bp then (if aa = ba then (if ae = be then (if ao = bo then decide (ab < bb) else decide (ao < bo)) else decide (ae < be)) else decide (aa < ba)) else decide (bp < ap)
def within (e po ps k f u : Int) (cl : Bool) (e' po' ps' k' f' u' : Int) (cl' : Bool) : Bool :=
  isGra e po ps k f u && (isGra e' po' ps' k' f' u' && (decide (e = e') && (decide (k = k') && (narr po ps po' ps' && (decide (f' ≤ f) && (decide (u ≤ u') && (cl || !cl')))))))
theorem take_set1 {α : Type} (s : List α) (i : Nat) (v : α) (h : i < s.length) : (s.set i v).take (i + 1) = s.take i ++ [v] := by
  rw [List.take_succ_eq_append_getElem (by simpa using h), List.take_set, List.set_eq_of_length_le (by simp; omega)]
  simp
theorem loop_up {σ ρ : Type} (g : Nat → σ → Int → Option ρ) (n : Nat) (out : σ → Nat → ρ) (I : σ → Nat → Prop) (hn : n ≤ 9223372036854775806)
    (hstep : ∀ (k : Nat) (s : σ) (i : Nat), i < n → I s i → (∀ s', I s' (i + 1) → g k s' (wrap64 ((i : Int) + 1)) = some (out s' (i + 1))) → g (k + 1) s (i : Int) = some (out s i))
    (hend : ∀ (k : Nat) (s : σ), I s n → g (k + 1) s (n : Int) = some (out s n)) :
    ∀ (d k : Nat) (s : σ) (i : Nat), i + d = n → d < k → I s i → g k s (i : Int) = some (out s i) := by
  intro d
  induction d with
  | zero =>
    intro k s i hi hk hI
    obtain ⟨k, rfl⟩ : ∃ m, k = m + 1 := ⟨k - 1, by omega⟩
    obtain rfl : i = n := by omega
    exact hend k s hI
  | succ d ih =>
    intro k s i hi hk hI
    obtain ⟨k, rfl⟩ : ∃ m, k = m + 1 := ⟨k - 1, by omega⟩
    refine hstep k s i (by omega) hI fun s' hI' => ?_
    have := ih k s' (i + 1) (by omega) (by omega) hI'
    rw [wr (by omega) (by omega)]
    exact_mod_cast this
theorem loop_from {σ ρ : Type} {g : Nat → σ → Int → Option ρ} {n : Nat} {out : σ → Nat → ρ} {I : σ → Nat → Prop} (h : ∀ (d k : Nat) (s : σ) (i : Nat), i + d = n → d < k → I s i → g k s (i : Int) = some (out s i))
    (k : Nat) (hk : n < k) (s : σ) (hI : I s 0) : g k s 0 = some (out s 0) := by
  have := h n k s 0 (by omega) hk hI
  exact_mod_cast this
theorem drop_at {α : Type} (xs : List α) (i : Nat) (h : i < xs.length) : xs.drop i = xs[i] :: xs.drop (i + 1) := List.drop_eq_getElem_cons h

theorem nlt {n : Nat} : ¬ (n : Int) < (n : Int) := by omega
/-- where a list is copied element by element into a made one -/
theorem rd_at {α : Type} (z : α) (xs : List α) (i : Nat) (h : i < xs.length) : xs.getD (i : Int).toNat z = xs[i] := by simp [h]

theorem loop_upm {σ ρ : Type} (m : Nat) (g : Nat → σ → Int → Option ρ) (n : Nat) (out : σ → Nat → ρ) (I : σ → Nat → Prop) (hn : n ≤ 9223372036854775806)
    (hstep : ∀ (k : Nat) (s : σ) (i : Nat), m ≤ k → i < n → I s i → (∀ s', I s' (i + 1) → g k s' (wrap64 ((i : Int) + 1)) = some (out s' (i + 1))) → g (k + 1) s (i : Int) = some (out s i))
    (hend : ∀ (k : Nat) (s : σ), m ≤ k → I s n → g (k + 1) s (n : Int) = some (out s n)) :
    ∀ (d k : Nat) (s : σ) (i : Nat), i + d = n → d + m < k → I s i → g k s (i : Int) = some (out s i) := by
  intro d
  induction d with
  | zero =>
    intro k s i hi hk hI
    obtain ⟨k, rfl⟩ : ∃ m, k = m + 1 := ⟨k - 1, by omega⟩
    obtain rfl : i = n := by omega
    exact hend k s (by omega) hI
  | succ d ih =>
    intro k s i hi hk hI
    obtain ⟨k, rfl⟩ : ∃ m, k = m + 1 := ⟨k - 1, by omega⟩
    refine hstep k s i (by omega) (by omega) hI fun s' hI' => ?_
    have := ih k s' (i + 1) (by omega) (by omega) hI'
    rw [wr (by omega) (by omega)]
    exact_mod_cast this
theorem loop_fromm {σ ρ : Type} {m : Nat} {g : Nat → σ → Int → Option ρ} {n : Nat} {out : σ → Nat → ρ} {I : σ → Nat → Prop} (h : ∀ (d k : Nat) (s : σ) (i : Nat), i + d = n → d + m < k → I s i → g k s (i : Int) = some (out s i))
    (k : Nat) (hk : n + m < k) (s : σ) (hI : I s 0) : g k s 0 = some (out s 0) := by
  have := h n k s 0 (by omega) hk hI
  exact_mod_cast this
theorem loop_run {σ ρ : Type} (m : Nat) (g : Nat → σ → Int → Option ρ) (n : Nat) (out : σ → Nat → ρ) (I : σ → Nat → Prop) (hn : n ≤ 9223372036854775806)
    (hstep : ∀ (k : Nat) (s : σ) (i : Nat), m ≤ k → i < n → I s i → (∀ s', I s' (i + 1) → g k s' (wrap64 ((i : Int) + 1)) = some (out s' (i + 1))) → g (k + 1) s (i : Int) = some (out s i))
    (hend : ∀ (k : Nat) (s : σ), m ≤ k → I s n → g (k + 1) s (n : Int) = some (out s n)) (k : Nat) (hk : n + m < k) (s : σ) (hI : I s 0) : g k s 0 = some (out s 0) :=
  loop_fromm (loop_upm m g n out I hn hstep hend) k hk s hI
theorem if_and2 {α : Type} (a : Bool) (p : Prop) [Decidable p] (x y : α) : (if a = true then (if p then x else y) else y) = if (a && decide p) = true then x else y := by
  cases a <;> by_cases h : p <;> simp [h]

theorem if_nand {α : Type} (a b : Bool) (x y : α) : (if a = true then (if b = true then y else x) else x) = if (!(a && b)) = true then x else y := by
  cases a <;> cases b <;> simp
theorem rdPattern_l (xs : List S24) (i : Nat) (h : i < xs.length) : rd_T24 xs (i : Int) = xs[i] := rd_at _ xs i h
theorem rdGrant_l (xs : List S41) (i : Nat) (h : i < xs.length) : rd_T41 xs (i : Int) = xs[i] := rd_at _ xs i h
theorem rdPattern_i (xs : List S32) (i : Nat) (h : i < xs.length) : rd_T32 xs (i : Int) = xs[i] := rd_at _ xs i h
theorem rdGrant_i (xs : List S48) (i : Nat) (h : i < xs.length) : rd_T48 xs (i : Int) = xs[i] := rd_at _ xs i h

def lendM (e o s t : Int) : List S48 := if (inR e 1 5 && (isSit o s && inR t 0 9995)) = true then [⟨e, ⟨o, s⟩, 1, t, wrap64 (t + 5), false⟩, ⟨e, ⟨o, s⟩, 2, t, wrap64 (t + 5), false⟩] else []
theorem lendM_len (e o s t : Int) : (lendM e o s t).length ≤ 2 := by unfold lendM; split <;> simp

def sgr (r y : S48) : Bool := (y.f0 == r.f0 && ((y.f1.f0 == r.f1.f0 && (y.f1.f1 == r.f1.f1)) && (y.f2 == r.f2 && (y.f3 == r.f3 && (y.f4 == r.f4 && (y.f5 == r.f5))))))
def newG (l g : List S48) : List S48 := g.filter fun r => !l.any (sgr r)
theorem newG_len (l g : List S48) : (newG l g).length ≤ g.length := List.length_filter_le _ _
theorem newG_cons (l : List S48) (r : S48) (g : List S48) : newG l (r :: g) = (if l.any (sgr r) = true then [] else [r]) ++ newG l g := by
  unfold newG
  rw [List.filter_cons]
  cases l.any (sgr r) <;> simp
def finG (l g out : List S48) : List S48 × Bool := if (g.length : Int) = 0 then (l, false) else if (out.length : Int) > 16 then (l, false) else (out, true)
def lendTo (l : List S48) (e o s t : Int) : List S48 × Bool := finG l (lendM e o s t) (l ++ newG l (lendM e o s t))
theorem lendTo_len (l : List S48) (e o s t : Int) : (lendTo l e o s t).1.length ≤ l.length + 2 := by
  have h1 := lendM_len e o s t
  have h2 := newG_len l (lendM e o s t)
  unfold lendTo finG
  split
  · dsimp only; omega
  · split
    · dsimp only; omega
    · simp only [List.length_append]; omega

def mkGrant : Int → List S48 → List S48
  | _, [] => []
  | m, x :: xs => ⟨m, ⟨m + 1, m + 2⟩, m + 3, m + 4, m + 5, Int.tmod (m + 6) 3 == 0⟩ :: mkGrant (m + 7) xs
theorem mkGrant_len : ∀ (xs : List S48) (m : Int), (mkGrant m xs).length = xs.length
  | [], _ => rfl
  | x :: xs, m => by simp [mkGrant, mkGrant_len xs]
theorem rdGrant_set (xs : List S48) (i : Nat) (v : S48) (h : i < xs.length) : rd_T48 (xs.set i v) (i : Int) = v := by
  rw [rdGrant_i _ i (by simpa using h)]; simp
set_option maxHeartbeats 4000000 in
theorem markGrantS_eq (k : Nat) (xs : List S48) (hn : xs.length ≤ 1048576) (hk : xs.length < k) : laws_markGrantS.f k xs 1 = some (1 + 7 * (xs.length : Int), mkGrant 1 xs) := by
  have L := loop_up (fun k (s : List S48 × Int) i => laws_markGrantS.l0 k s.1 s.2 i) xs.length (fun s i => (s.2 + 7 * ((xs.length - i : Nat) : Int), s.1.take i ++ mkGrant s.2 (s.1.drop i))) (fun s i => s.1.length = xs.length ∧ 1 ≤ s.2 ∧ s.2 ≤ 1 + 7 * i) (by omega)
    (fun k s i hi hI ih => by
      obtain ⟨s, m⟩ := s
      obtain ⟨h1, h2, h3⟩ := hI
      simp only at h1 h2 h3
      simp only [laws_markGrantS.l0]
      rw [if_pos (by omega), if_pos (by omega)]
      have hw : ∀ j : Int, 0 ≤ j → j ≤ 10 → wrap64 (m + j) = m + j := fun j _ _ => wr (by omega) (by omega)
      have hv : ∀ j : Int, 0 ≤ j → j ≤ 9 → wrap64 (m + j + 1) = m + (j + 1) := fun j _ _ => by rw [Int.add_assoc]; exact hw (j + 1) (by omega) (by omega)
      have w1 : wrap64 (m + 1) = m + 1 := hw 1 (by decide) (by decide)
      have w2 : wrap64 (m + 2) = m + 2 := hw 2 (by decide) (by decide)
      have w3 : wrap64 (m + 3) = m + 3 := hw 3 (by decide) (by decide)
      have w4 : wrap64 (m + 4) = m + 4 := hw 4 (by decide) (by decide)
      have w5 : wrap64 (m + 5) = m + 5 := hw 5 (by decide) (by decide)
      have w6 : wrap64 (m + 6) = m + 6 := hw 6 (by decide) (by decide)
      have w7 : wrap64 (m + 7) = m + 7 := hw 7 (by decide) (by decide)
      have v1 : wrap64 (m + 1 + 1) = m + 2 := hv 1 (by decide) (by decide)
      have v2 : wrap64 (m + 2 + 1) = m + 3 := hv 2 (by decide) (by decide)
      have v3 : wrap64 (m + 3 + 1) = m + 4 := hv 3 (by decide) (by decide)
      have v4 : wrap64 (m + 4 + 1) = m + 5 := hv 4 (by decide) (by decide)
      have v5 : wrap64 (m + 5 + 1) = m + 6 := hv 5 (by decide) (by decide)
      have v6 : wrap64 (m + 6 + 1) = m + 7 := hv 6 (by decide) (by decide)
      clear hw hv
      simp only [Option.bind_some, Int.toNat_natCast, w1, w2, w3, w4, w5, w6, w7, v1, v2, v3, v4, v5, v6]
      simp only [rdGrant_set _ _ _ (show i < (s.set i _).length by simp; omega), rdGrant_set _ _ _ (show i < s.length by omega), List.set_set, rdGrant_i s i (by omega)]
      have hd := drop_at s i (by omega)
      have := ih (s.set i (let x := s[i]; ⟨m, ⟨m + 1, m + 2⟩, m + 3, m + 4, m + 5, Int.tmod (m + 6) 3 == 0⟩), m + 7) (by simp; omega)
      simp only at this
      rw [this]
      rw [take_set1 _ _ _ (by omega), hd]
      simp only [mkGrant, List.append_assoc, List.singleton_append, List.cons_append, List.nil_append]
      congr 2
      · omega
      · simp [List.drop_set]
    )
    (fun k s hI => by
      simp only [laws_markGrantS.l0]
      rw [if_neg (by omega), List.drop_of_length_le (by omega), List.take_of_length_le (by omega)]
      simp [mkGrant])
  unfold laws_markGrantS.f
  have := loop_from L k hk (xs, 1) (by simp)
  try simp only at this
  rw [this]
  simp

set_option maxHeartbeats 4000000 in
theorem heldGrantS_eq (k : Nat) (xs : List S48) (hn : xs.length ≤ 1048576) (hk : xs.length < k) : laws_heldGrantS.f k (mkGrant 1 xs) 1 = some (1 + 7 * (xs.length : Int)) := by
  have hl := mkGrant_len xs 1
  have L := loop_up (fun k (m : Int) i => laws_heldGrantS.l0 k (mkGrant 1 xs) m i) xs.length (fun m i => m + 7 * ((xs.length - i : Nat) : Int)) (fun m i => 1 ≤ m ∧ m ≤ 1 + 7 * i ∧ (mkGrant 1 xs).drop i = mkGrant m (xs.drop i)) (by omega)
    (fun k m i hi hI ih => by
      obtain ⟨h2, h3, h4⟩ := hI
      have hd := drop_at (mkGrant 1 xs) i (by omega)
      have hx := drop_at xs i hi
      have hr := rdGrant_i (mkGrant 1 xs) i (by omega)
      rw [hd, hx] at h4
      simp only [mkGrant, List.cons.injEq] at h4
      obtain ⟨h5, h6⟩ := h4
      rw [h5] at hr
      simp only [laws_heldGrantS.l0]
      rw [if_pos (by omega), if_pos (by omega)]
      have hw : ∀ j : Int, 0 ≤ j → j ≤ 10 → wrap64 (m + j) = m + j := fun j _ _ => wr (by omega) (by omega)
      have hv : ∀ j : Int, 0 ≤ j → j ≤ 9 → wrap64 (m + j + 1) = m + (j + 1) := fun j _ _ => by rw [Int.add_assoc]; exact hw (j + 1) (by omega) (by omega)
      have w1 : wrap64 (m + 1) = m + 1 := hw 1 (by decide) (by decide)
      have w2 : wrap64 (m + 2) = m + 2 := hw 2 (by decide) (by decide)
      have w3 : wrap64 (m + 3) = m + 3 := hw 3 (by decide) (by decide)
      have w4 : wrap64 (m + 4) = m + 4 := hw 4 (by decide) (by decide)
      have w5 : wrap64 (m + 5) = m + 5 := hw 5 (by decide) (by decide)
      have w6 : wrap64 (m + 6) = m + 6 := hw 6 (by decide) (by decide)
      have w7 : wrap64 (m + 7) = m + 7 := hw 7 (by decide) (by decide)
      have v1 : wrap64 (m + 1 + 1) = m + 2 := hv 1 (by decide) (by decide)
      have v2 : wrap64 (m + 2 + 1) = m + 3 := hv 2 (by decide) (by decide)
      have v3 : wrap64 (m + 3 + 1) = m + 4 := hv 3 (by decide) (by decide)
      have v4 : wrap64 (m + 4 + 1) = m + 5 := hv 4 (by decide) (by decide)
      have v5 : wrap64 (m + 5 + 1) = m + 6 := hv 5 (by decide) (by decide)
      have v6 : wrap64 (m + 6 + 1) = m + 7 := hv 6 (by decide) (by decide)
      clear hw hv
      simp only [hr, w1, w2, w3, w4, w5, w6, w7, v1, v2, v3, v4, v5, v6, if_true, bne_self_eq_false, Bool.false_eq_true, if_false]
      have := ih (m + 7) ⟨by omega, by omega, h6⟩
      rw [this]
      congr 1
      omega)
    (fun k m hI => by
      simp only [laws_heldGrantS.l0]
      rw [if_neg (by omega)]
      simp)
  unfold laws_heldGrantS.f
  have := loop_from L k hk 1 ⟨by omega, by omega, by simp⟩
  try simp only at this
  rw [this]
  simp

theorem szGrant (xs : List S41) (a : Int) (h0 : 0 ≤ a) (h1 : a ≤ 1048576) (hl : xs.length ≤ 9223372036854775807) : laws_szGrantS.f xs a = some (if a < xs.length then -1 else a - xs.length) := by
  unfold laws_szGrantS.f
  rw [wr (by omega) (by omega)]
  by_cases h : a < xs.length
  · rw [if_pos (by omega), if_pos h]
  · rw [if_neg (by omega), if_neg h]

theorem toGrant_eq (a0 : Int) (a1 : Int) (a2 : Int) (a3 : Int) (a4 : Int) (a5 : Int) (a6 : Bool) : laws_toGrant.f a0 a1 a2 a3 a4 a5 a6 = some (a0, a1, a2, a3, a4, a5, a6) := by
  unfold laws_toGrant.f laws_toPattern.f; rfl

def cvGrant (r : S41) : S48 := ⟨r.f0, ⟨r.f1.f0, r.f1.f1⟩, r.f2, r.f3, r.f4, r.f5⟩
theorem toGrantS_eq (k : Nat) (xs : List S41) (hn : xs.length ≤ 1048576) (hk : xs.length < k) : laws_toGrantS.f k xs = some (xs.map cvGrant) := by
  have L := loop_up (fun k (s : List S48) i => laws_toGrantS.l0 k xs s i) xs.length (fun s i => s.take i ++ (xs.drop i).map cvGrant) (fun s _ => s.length = xs.length) (by omega)
    (fun k s i hi hI ih => by
      simp only [laws_toGrantS.l0]
      rw [if_pos (by omega), if_pos (by omega), rdGrant_l xs i hi, toGrant_eq]
      simp only [Option.bind_some]
      rw [if_pos (by omega), ih _ (by simp [hI]), Int.toNat_natCast, take_set1 _ _ _ (by omega), drop_at xs i hi, List.map_cons, List.append_assoc]
      rfl)
    (fun k s hI => by
      simp only [laws_toGrantS.l0]
      rw [if_neg nlt, List.drop_of_length_le (Nat.le_refl _), List.take_of_length_le (by omega)]
      simp)
  unfold laws_toGrantS.f
  rw [if_pos (by omega), if_pos (by omega)]
  rw [loop_from L k hk _ (by simp)]
  simp

theorem spec_in (a b c : Int) : spec_l1In.f a b c = some (inR a b c) := by
  unfold spec_l1In.f inR; exact and_if _ _

theorem spec_sit (a b : Int) : spec_IsSite.f a b = some (isSit a b) := by
  unfold spec_IsSite.f isSit; simp only [spec_in, Option.bind_some]; cases inR a 1 9 <;> simp

theorem toSite_eq (a0 : Int) (a1 : Int) : laws_toSite.f a0 a1 = some (a0, a1) := by
  unfold laws_toSite.f; rfl

theorem impl_in (a b c : Int) : impl_InRange.f a b c = some (inR a b c) := by
  unfold impl_InRange.f inR; exact and_if _ _

theorem impl_sit (a b : Int) : impl_IsSite.f a b = some (isSit a b) := by
  unfold impl_IsSite.f isSit; simp only [impl_in, Option.bind_some]; cases inR a 1 9 <;> simp


theorem cloneGrant_eq (xs : List S48) (hn : xs.length ≤ 1048576) : impl_Grant_91.f xs = some xs := by
  unfold impl_Grant_91.f
  rw [Option.bind_some, if_pos (by simp; omega), List.nil_append]


def sameGrant (a b c d e f : Int) (g : Bool) (r : S48) : Bool := (r.f0 == a && ((r.f1.f0 == b && (r.f1.f1 == c)) && (r.f2 == d && (r.f3 == e && (r.f4 == f && (r.f5 == g))))))
theorem sameGrant_c (a b c d e f : Int) (g : Bool) (r : S48) : (a == r.f0 && ((b == r.f1.f0 && (c == r.f1.f1)) && (d == r.f2 && (e == r.f3 && (f == r.f4 && (g == r.f5)))))) = sameGrant a b c d e f g r := by
  have E0 : ∀ x y : Int, (x == y) = (y == x) := fun x y => by rw [beq_dec, beq_dec]; exact decide_eq_decide.2 eq_comm
  have E1 : ∀ x y : Bool, (x == y) = (y == x) := by decide
  unfold sameGrant
  rw [E0 a, E0 b, E0 c, E0 d, E0 e, E0 f, E1 g]

theorem ixGrant_l (k : Nat) (xs : List S48) (a b c d e f : Int) (g : Bool) (hn : xs.length ≤ 1048576) (hk : xs.length < k) : impl_Grant_131.f k xs a b c d e f g = some (if xs.any (sameGrant a b c d e f g) then ((xs.findIdx (sameGrant a b c d e f g) : Nat) : Int) else -1) := by
  have L := loop_run 0 (fun k (_ : Unit) i => impl_Grant_131.l0 k xs (xs.length : Int) i a b c d e f g) xs.length (fun _ i => if (xs.drop i).any (sameGrant a b c d e f g) then ((i + (xs.drop i).findIdx (sameGrant a b c d e f g) : Nat) : Int) else -1) (fun _ _ => True) (by omega)
    (fun k u_ i hm hi hI ih => by
      have hd := drop_at xs i hi
      have hr := rdGrant_i xs i hi
      generalize xs[i] = r at hd hr
      have ih' := ih () trivial
      try dsimp only at ih'
      simp only [impl_Grant_131.l0]
      rw [if_pos (by omega), if_pos (by omega), if_pos (by omega)]
      simp only [hr]
      rw [sameGrant_c, ih', hd, List.any_cons, List.findIdx_cons]
      cases sameGrant a b c d e f g r
      · simp only [Bool.false_or, Bool.false_eq_true, if_false, cond_false]
        congr 1
        split
        · omega
        · rfl
      · simp)
    (fun k u_ hm hI => by
      simp only [impl_Grant_131.l0]
      rw [if_neg nlt, List.drop_of_length_le (Nat.le_refl _)]
      simp) k hk () trivial
  try dsimp only at L
  unfold impl_Grant_131.f
  rw [L, List.drop_zero, Nat.zero_add]


theorem hasGrant_eq (k : Nat) (xs : List S48) (a b c d e f : Int) (g : Bool) (hn : xs.length ≤ 1048576) (hk : xs.length < k) : impl_Grant_92.f k xs a b c d e f g = some (xs.any (sameGrant a b c d e f g)) := by
  unfold impl_Grant_92.f
  rw [ixGrant_l k xs a b c d e f g hn hk, Option.bind_some]
  congr 1
  split
  · next h => rw [h]; exact decide_eq_true (by omega)
  · next h => rw [Bool.eq_false_iff.2 h]; rfl


theorem spec_lend (k : Nat) (e o s t : Int) (hk : 10 < k) : spec_LendGrants.f k e o s t = some (lendM e o s t) := by
  obtain ⟨k, rfl⟩ : ∃ m, k = m + 5 := ⟨k - 5, by omega⟩
  unfold spec_LendGrants.f lendM
  simp only [spec_in, spec_sit, Option.bind_some]
  have w1 : wrap64 2 = 2 := wr (by omega) (by omega)
  have w2 : wrap64 3 = 3 := wr (by omega) (by omega)
  cases inR e 1 5 <;> cases isSit o s <;> cases inR t 0 9995 <;> simp [spec_LendGrants.j0, spec_LendGrants.l0, w1, w2]


theorem spec_lt1 (l G out : List S48) (R : List S48 × Bool) (hn : l.length ≤ 1048576) (ho : out.length ≤ 1048578) (j : Nat) (hj : j < G.length) (hG : G.length ≤ 2) (k0 : Nat)
    (next : ∀ k, k0 ≤ k → spec_LendTo.l0 k l G (if l.any (sgr G[j]) = true then out else out ++ [G[j]]) ((j + 1 : Nat) : Int) = some R) :
    ∀ (d k i : Nat) (c : Bool), i + d = l.length → k0 + d < k → c = (l.take i).any (sgr G[j]) → spec_LendTo.l1 k l G out (j : Int) c (i : Int) = some R := by
  have hr := rdGrant_i G j hj
  intro d
  induction d with
  | zero =>
    intro k i c hi hk hc
    obtain ⟨k, rfl⟩ : ∃ m, k = m + 1 := ⟨k - 1, by omega⟩
    rw [List.take_of_length_le (by omega)] at hc
    have nx := next k (by omega)
    rw [← hc] at nx
    simp only [spec_LendTo.l1]
    rw [if_neg (by omega), wr (i := (j : Int) + 1) (by omega) (by omega), show (j : Int) + 1 = ((j + 1 : Nat) : Int) by omega]
    cases c
    · rw [if_neg (by decide), if_pos (by omega), if_pos (by omega), if_pos (by omega), hr]
      rw [if_neg (by decide)] at nx
      exact nx
    · rw [if_pos rfl]
      rw [if_pos rfl] at nx
      exact nx
  | succ d ih =>
    intro k i c hi hk hc
    obtain ⟨k, rfl⟩ : ∃ m, k = m + 1 := ⟨k - 1, by omega⟩
    have ht : l.take (i + 1) = l.take i ++ [l[i]'(by omega)] := List.take_succ_eq_append_getElem (by omega)
    have hl := rdGrant_i l i (by omega)
    simp only [spec_LendTo.l1]
    rw [if_pos (by omega), wr (i := (i : Int) + 1) (by omega) (by omega), show (i : Int) + 1 = ((i + 1 : Nat) : Int) by omega]
    cases c
    · rw [if_neg (by decide), if_pos (by omega), if_pos (by omega), if_pos (by omega), hl, hr]
      refine ih k (i + 1) _ (by omega) (by omega) ?_
      rw [ht, List.any_append, ← hc, Bool.false_or, List.any_cons, List.any_nil, Bool.or_false]
      rfl
    · rw [if_pos rfl]
      refine ih k (i + 1) true (by omega) (by omega) ?_
      rw [ht, List.any_append, ← hc, Bool.true_or]
theorem spec_lt0 (l G : List S48) (hn : l.length ≤ 1048576) (hG : G.length ≤ 2) : ∀ (n k j : Nat) (out : List S48), j + n = G.length → (l.length + 5) * n + 5 < k → out.length ≤ l.length + j → spec_LendTo.l0 k l G out (j : Int) = some (finG l G (out ++ newG l (G.drop j))) := by
  intro n
  induction n with
  | zero =>
    intro k j out hj hk ho
    obtain ⟨k, rfl⟩ : ∃ m, k = m + 1 := ⟨k - 1, by omega⟩
    simp only [spec_LendTo.l0]
    rw [if_neg (by omega), List.drop_of_length_le (by omega)]
    simp only [newG, List.filter_nil, List.append_nil, finG, Option.bind_some, List.nil_append, List.length_nil]
    by_cases h : (G.length : Int) = 0
    · rw [if_pos h, if_pos h, if_pos (by omega)]
    · rw [if_neg h, if_neg h]
      by_cases h2 : (out.length : Int) > 16
      · rw [if_pos h2, if_pos h2, if_pos (by omega)]
      · rw [if_neg h2, if_neg h2]
  | succ n ih =>
    intro k j out hj hk ho
    obtain ⟨k, rfl⟩ : ∃ m, k = m + 1 := ⟨k - 1, by omega⟩
    rw [Nat.mul_succ] at hk
    simp only [spec_LendTo.l0]
    rw [if_pos (by omega)]
    have hd := drop_at G j (by omega)
    refine spec_lt1 l G out _ hn (by omega) j (by omega) hG ((l.length + 5) * n + 6) (fun k' hk' => ?_) l.length k 0 false (by omega) (by omega) (by simp)
    rw [hd, newG_cons, ← List.append_assoc]
    have := ih k' (j + 1) (if l.any (sgr G[j]) = true then out else out ++ [G[j]]) (by omega) (by omega) (by
      split
      · omega
      · simp only [List.length_append, List.length_singleton]; omega)
    rw [this]
    congr 2
    cases l.any (sgr G[j]) <;> simp
theorem spec_LendTo_eq (k : Nat) (l : List S48) (e o s t : Int) (hn : l.length ≤ 1048576) (hk : l.length + l.length + 40 < k) : spec_LendTo.f k l e o s t = some (lendTo l e o s t) := by
  unfold spec_LendTo.f lendTo
  rw [spec_lend k _ _ _ _ (by omega), Option.bind_some, Option.bind_some, if_pos (by simp; omega), List.nil_append]
  have hG := lendM_len e o s t
  have := spec_lt0 l (lendM e o s t) hn hG (lendM e o s t).length k 0 l (by omega) (by
    generalize (lendM e o s t).length = n at hG
    have : (l.length + 5) * n ≤ (l.length + 5) * 2 := Nat.mul_le_mul_left _ hG
    omega) (by omega)
  rw [show ((0 : Nat) : Int) = 0 from rfl, List.drop_zero] at this
  exact this


theorem impl_lend (e o s t : Int) : impl_LendGrants.f e o s t = some (lendM e o s t) := by
  unfold impl_LendGrants.f lendM
  simp only [impl_in, impl_sit, Option.bind_some]
  cases inR e 1 5 <;> cases isSit o s <;> cases inR t 0 9995 <;> rfl


theorem impl_lt0 (l G : List S48) (hn : l.length ≤ 1048576) (hG : G.length ≤ 2) : ∀ (n k j : Nat) (out : List S48), j + n = G.length → n + l.length + 5 < k → out.length ≤ l.length + j → impl_LendTo.l0 k l G out G (G.length : Int) (j : Int) = some (finG l G (out ++ newG l (G.drop j))) := by
  intro n
  induction n with
  | zero =>
    intro k j out hj hk ho
    obtain ⟨k, rfl⟩ : ∃ m, k = m + 1 := ⟨k - 1, by omega⟩
    simp only [impl_LendTo.l0]
    rw [if_neg (by omega), List.drop_of_length_le (by omega), cloneGrant_eq l hn]
    simp only [newG, List.filter_nil, List.append_nil, finG, Option.bind_some]
    by_cases h : (G.length : Int) = 0
    · rw [if_pos h, if_pos h]
    · rw [if_neg h, if_neg h]
      by_cases h2 : (out.length : Int) > 16
      · rw [if_pos h2, if_pos h2]
      · rw [if_neg h2, if_neg h2]
  | succ n ih =>
    intro k j out hj hk ho
    obtain ⟨k, rfl⟩ : ∃ m, k = m + 1 := ⟨k - 1, by omega⟩
    simp only [impl_LendTo.l0]
    have hd := drop_at G j (by omega)
    have hr := rdGrant_i G j (by omega)
    rw [if_pos (by omega), if_pos (by omega), if_pos (by omega), hr, hasGrant_eq k l _ _ _ _ _ _ _ hn (by omega), Option.bind_some, wr (i := (j : Int) + 1) (by omega) (by omega), show (j : Int) + 1 = ((j + 1 : Nat) : Int) by omega, hd, newG_cons, ← List.append_assoc]
    generalize G[j] = r at hd hr
    show (if l.any (sgr r) = true then _ else _) = _
    cases l.any (sgr r)
    · rw [if_neg (by decide), if_pos (by omega), if_neg (by decide)]
      exact ih k (j + 1) (out ++ [r]) (by omega) (by omega) (by simp; omega)
    · rw [if_pos rfl, if_pos rfl, List.append_nil]
      exact ih k (j + 1) out (by omega) (by omega) (by omega)
theorem impl_LendTo_eq (k : Nat) (l : List S48) (e o s t : Int) (hn : l.length ≤ 1048576) (hk : l.length + 40 < k) : impl_LendTo.f k l e o s t = some (lendTo l e o s t) := by
  unfold impl_LendTo.f lendTo
  have hG := lendM_len e o s t
  rw [impl_lend, Option.bind_some, cloneGrant_eq l hn, Option.bind_some]
  have := impl_lt0 l (lendM e o s t) hn hG (lendM e o s t).length k 0 l (by omega) (by omega) (by omega)
  rw [show ((0 : Nat) : Int) = 0 from rfl, List.drop_zero] at this
  exact this

theorem eqGrant_self (a0 : Int) (a1 : Int) (a2 : Int) (a3 : Int) (a4 : Int) (a5 : Int) (a6 : Bool) : laws_eqGrant.f a0 a1 a2 a3 a4 a5 a6 a0 a1 a2 a3 a4 a5 a6 = some true := by
  simp [laws_eqGrant.f, laws_eqPattern.f]

theorem eqGrantS_self (k : Nat) (xs : List S48) (hn : xs.length ≤ 1048576) (hk : xs.length < k) : laws_eqGrantS.f k xs xs = some true := by
  have L := loop_up (fun k (_ : Unit) i => laws_eqGrantS.l0 k xs xs i) xs.length (fun _ _ => true) (fun _ _ => True) (by omega)
    (fun k s i hi hI ih => by
      simp only [laws_eqGrantS.l0]
      rw [if_pos (by omega), if_pos (by omega), if_pos (by omega)]
      simp only [eqGrant_self, Option.bind_some, if_true]
      exact ih () trivial)
    (fun k s hI => by
      simp only [laws_eqGrantS.l0]
      rw [if_neg nlt])
  unfold laws_eqGrantS.f
  rw [if_pos rfl]
  exact loop_from L k hk () trivial


theorem FnExactLendTo (l : List S41) (e o s t : Int) (hm : l.length ≤ 9223372036854775807) {G : S41 → Prop} (hg : ∀ y ∈ l, G y) (_ : (Lit.int .i64 e).wf = true) (_ : (Lit.int .i64 o).wf = true) (_ : (Lit.int .i64 s).wf = true) (_ : (Lit.int .i64 t).wf = true) : ∃ k, laws_FnExactLendTo.f k l e o s t = some true := by
  refine ⟨l.length + l.length + 100, ?_⟩
  unfold laws_FnExactLendTo.f
  rw [szGrant l 1048576 (by omega) (by omega) hm]
  simp only [Option.bind_some]
  by_cases hb : (1048576 : Int) < l.length
  · rw [if_pos hb, if_pos (by omega)]
  · rw [if_neg hb, if_neg (by omega)]
    have hl : l.length ≤ 1048576 := by omega
    have hc : (l.map cvGrant).length = l.length := by simp
    have hf := lendTo_len (l.map cvGrant) e o s t
    have hcap : (lendTo (l.map cvGrant) e o s t).1.length ≤ 1048576 := by
      unfold lendTo finG
      split
      · dsimp only; omega
      · split
        · dsimp only; omega
        · dsimp only; omega
    simp (disch := omega) only [toGrantS_eq, laws_toSite.f, impl_LendTo_eq, spec_LendTo_eq, Option.bind_some, bne_self_eq_false, Bool.false_eq_true, if_false, eqGrantS_self, if_true, laws_FnExactLendTo.j0, markGrantS_eq]
    rw [if_neg (by omega)]
    simp (disch := omega) only [toGrantS_eq, laws_toSite.f, impl_LendTo_eq, Option.bind_some, bne_self_eq_false, Bool.false_eq_true, if_false, eqGrantS_self, if_true, laws_FnExactLendTo.j1, markGrantS_eq, heldGrantS_eq]
    rw [if_neg (by omega)]
    simp (disch := omega) only [laws_FnExactLendTo.j2, Bool.false_eq_true, if_false, Option.bind_some, heldGrantS_eq, if_true]
    rw [if_neg (by omega)]

end Go.Proofs.Ytacgichgadoddaa.Pure
