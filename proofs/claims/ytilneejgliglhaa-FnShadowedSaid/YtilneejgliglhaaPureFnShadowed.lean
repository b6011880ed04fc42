/- The printed function of the law FnShadowed answers true, for all arguments, under no condition but that each whole number is one of its kind and that each slice has a length that fits. -/
import Derived.Test.YtilneejgliglhaaQSx48
namespace Go.Proofs.Ytilneejgliglhaa.Pure
open Go.RowKit Go.Proofs.Ytilneejgliglhaa.QS Go.Proofs.YtilneejgliglhaaW.PrintWords Go.Proofs.YtilneejgliglhaaW.PrintLast
set_option linter.unusedVariables false
set_option linter.unusedSimpArgs false
theorem wr {i : Int} (h0 : -9223372036854775808 ≤ i) (h1 : i ≤ 9223372036854775807) : wrap64 i = i := by unfold wrap64; omega
theorem beq_dec (a b : Int) : (a == b) = decide (a = b) := by by_cases h : a = b <;> simp [h]
theorem and_if (p : Prop) [Decidable p] (c : Bool) : (if p then some c else some false) = some (decide p && c) := by
  by_cases h : p <;> simp [h]
theorem or_if (p : Prop) [Decidable p] (c : Bool) : (if p then some true else some c) = some (decide p || c) := by
  by_cases h : p <;> simp [h]
def inR (a b c : Int) : Bool := decide (b ≤ a) && decide (a ≤ c)
def isPat (o s : Int) : Bool := inR o 0 9 && inR s (-1) 9
def isSit (o s : Int) : Bool := inR o 1 9 && inR s 0 9
def mtch (po ps o s : Int) : Bool := isPat po ps && (isSit o s && ((decide (po = 0) || decide (po = o)) && (decide (ps = -1) || decide (ps = s))))
def narr (po ps qo qs : Int) : Bool := isPat po ps && (isPat qo qs && ((decide (qo = 0) || decide (po = qo)) && (decide (qs = -1) || decide (ps = qs))))
def isGra (e po ps k f u : Int) : Bool := inR e 1 5 && (isPat po ps && (inR k 1 4 && (decide (0 ≤ f) && (decide (f ≤ u) && decide (u ≤ 10000)))))
def isLim (e po ps k : Int) : Bool := inR e 0 5 && (isPat po ps && inR k 0 4)
def covr (e po ps k f u : Int) (cl : Bool) (ext o s kind tick : Int) (ck : Bool) : Bool :=
  isGra e po ps k f u && (decide (e = ext) && (decide (k = kind) && (mtch po ps o s && (inR tick f u && (ck || !cl)))))
def isRul (e p po ps s a o b : Int) : Bool :=
  inR e 1 5 && (inR p 1 9 && (isPat po ps && (inR s 0 4 && ((decide (a = 1) || decide (a = 2)) && (decide (o = 0) && decide (b = 0)) || decide (a = 3) && isSit o b))))
def isReq (o s t : Int) : Bool := isSit o s && inR t 1 4
def appl (e p po ps s a o b qo qs qt : Int) : Bool := isRul e p po ps s a o b && (isReq qo qs qt && (mtch po ps qo qs && (decide (s = 0) || decide (s = qt))))
def isLen (e po ps k f u : Int) (cl : Bool) : Bool := isGra e po ps k f u && (decide (po ≠ 0) && (decide (ps ≠ -1) && ((decide (k = 1) || decide (k = 2)) && (decide (u = f + 5) && !cl))))
def isLab (x : Int) : Bool := inR x 0 1022 && decide (Int.tmod x 2 = 0)
def befo (ae ap aa ao ab be bp ba bo bb : Int) : Bool :=
  if ap = bp then (if aa = ba then (if ae = be then (if ao = bo then decide (ab < bb) else decide (ao < bo)) else decide (ae < be)) else decide (aa < ba)) else decide (bp < ap)
def within (e po ps k f u : Int) (cl : Bool) (e' po' ps' k' f' u' : Int) (cl' : Bool) : Bool :=
  isGra e po ps k f u && (isGra e' po' ps' k' f' u' && (decide (e = e') && (decide (k = k') && (narr po ps po' ps' && (decide (f' ≤ f) && (decide (u ≤ u') && (cl || !cl')))))))
theorem take_set1 {α : Type} (s : List α) (i : Nat) (v : α) (h : i < s.length) : (s.set i v).take (i + 1) = s.take i ++ [v] := by
  rw [List.take_succ_eq_append_getElem (by simpa using h), List.take_set, List.set_eq_of_length_le (by simp; omega)]
  simp
theorem loop_up {σ ρ : Type} (g : Nat → σ → Int → Option ρ) (n : Nat) (out : σ → Nat → ρ) (I : σ → Nat → Prop) (hn : n ≤ 9223372036854775806)
    (hstep : ∀ (k : Nat) (s : σ) (i : Nat), i < n → I s i → (∀ s', I s' (i + 1) → g k s' (wrap64 ((i : Int) + 1)) = some (out s' (i + 1))) → g (k + 1) s (i : Int) = some (out s i))
    (hend : ∀ (k : Nat) (s : σ), I s n → g (k + 1) s (n : Int) = some (out s n)) :
    ∀ (d k : Nat) (s : σ) (i : Nat), i + d = n → d < k → I s i → g k s (i : Int) = some (out s i) := by
  intro d
  induction d with
  | zero =>
    intro k s i hi hk hI
    obtain ⟨k, rfl⟩ : ∃ m, k = m + 1 := ⟨k - 1, by omega⟩
    obtain rfl : i = n := by omega
    exact hend k s hI
  | succ d ih =>
    intro k s i hi hk hI
    obtain ⟨k, rfl⟩ : ∃ m, k = m + 1 := ⟨k - 1, by omega⟩
    refine hstep k s i (by omega) hI fun s' hI' => ?_
    have := ih k s' (i + 1) (by omega) (by omega) hI'
    rw [wr (by omega) (by omega)]
    exact_mod_cast this
theorem loop_from {σ ρ : Type} {g : Nat → σ → Int → Option ρ} {n : Nat} {out : σ → Nat → ρ} {I : σ → Nat → Prop} (h : ∀ (d k : Nat) (s : σ) (i : Nat), i + d = n → d < k → I s i → g k s (i : Int) = some (out s i))
    (k : Nat) (hk : n < k) (s : σ) (hI : I s 0) : g k s 0 = some (out s 0) := by
  have := h n k s 0 (by omega) hk hI
  exact_mod_cast this
theorem drop_at {α : Type} (xs : List α) (i : Nat) (h : i < xs.length) : xs.drop i = xs[i] :: xs.drop (i + 1) := List.drop_eq_getElem_cons h

theorem nlt {n : Nat} : ¬ (n : Int) < (n : Int) := by omega
/-- where a list is copied element by element into a made one -/
theorem rd_at {α : Type} (z : α) (xs : List α) (i : Nat) (h : i < xs.length) : xs.getD (i : Int).toNat z = xs[i] := by simp [h]

theorem loop_upm {σ ρ : Type} (m : Nat) (g : Nat → σ → Int → Option ρ) (n : Nat) (out : σ → Nat → ρ) (I : σ → Nat → Prop) (hn : n ≤ 9223372036854775806)
    (hstep : ∀ (k : Nat) (s : σ) (i : Nat), m ≤ k → i < n → I s i → (∀ s', I s' (i + 1) → g k s' (wrap64 ((i : Int) + 1)) = some (out s' (i + 1))) → g (k + 1) s (i : Int) = some (out s i))
    (hend : ∀ (k : Nat) (s : σ), m ≤ k → I s n → g (k + 1) s (n : Int) = some (out s n)) :
    ∀ (d k : Nat) (s : σ) (i : Nat), i + d = n → d + m < k → I s i → g k s (i : Int) = some (out s i) := by
  intro d
  induction d with
  | zero =>
    intro k s i hi hk hI
    obtain ⟨k, rfl⟩ : ∃ m, k = m + 1 := ⟨k - 1, by omega⟩
    obtain rfl : i = n := by omega
    exact hend k s (by omega) hI
  | succ d ih =>
    intro k s i hi hk hI
    obtain ⟨k, rfl⟩ : ∃ m, k = m + 1 := ⟨k - 1, by omega⟩
    refine hstep k s i (by omega) (by omega) hI fun s' hI' => ?_
    have := ih k s' (i + 1) (by omega) (by omega) hI'
    rw [wr (by omega) (by omega)]
    exact_mod_cast this
theorem loop_fromm {σ ρ : Type} {m : Nat} {g : Nat → σ → Int → Option ρ} {n : Nat} {out : σ → Nat → ρ} {I : σ → Nat → Prop} (h : ∀ (d k : Nat) (s : σ) (i : Nat), i + d = n → d + m < k → I s i → g k s (i : Int) = some (out s i))
    (k : Nat) (hk : n + m < k) (s : σ) (hI : I s 0) : g k s 0 = some (out s 0) := by
  have := h n k s 0 (by omega) hk hI
  exact_mod_cast this
theorem loop_run {σ ρ : Type} (m : Nat) (g : Nat → σ → Int → Option ρ) (n : Nat) (out : σ → Nat → ρ) (I : σ → Nat → Prop) (hn : n ≤ 9223372036854775806)
    (hstep : ∀ (k : Nat) (s : σ) (i : Nat), m ≤ k → i < n → I s i → (∀ s', I s' (i + 1) → g k s' (wrap64 ((i : Int) + 1)) = some (out s' (i + 1))) → g (k + 1) s (i : Int) = some (out s i))
    (hend : ∀ (k : Nat) (s : σ), m ≤ k → I s n → g (k + 1) s (n : Int) = some (out s n)) (k : Nat) (hk : n + m < k) (s : σ) (hI : I s 0) : g k s 0 = some (out s 0) :=
  loop_fromm (loop_upm m g n out I hn hstep hend) k hk s hI
theorem if_and2 {α : Type} (a : Bool) (p : Prop) [Decidable p] (x y : α) : (if a = true then (if p then x else y) else y) = if (a && decide p) = true then x else y := by
  cases a <;> by_cases h : p <;> simp [h]

theorem if_nand {α : Type} (a b : Bool) (x y : α) : (if a = true then (if b = true then y else x) else x) = if (!(a && b)) = true then x else y := by
  cases a <;> cases b <;> simp
theorem rdPattern_i (xs : List S33) (i : Nat) (h : i < xs.length) : rd_T33 xs (i : Int) = xs[i] := rd_at _ xs i h
theorem rdSite_i (xs : List S27) (i : Nat) (h : i < xs.length) : rd_T27 xs (i : Int) = xs[i] := rd_at _ xs i h
theorem rdRule_i (xs : List S84) (i : Nat) (h : i < xs.length) : rd_T84 xs (i : Int) = xs[i] := rd_at _ xs i h

def appS (r : S84) (qo qs qt : Int) : Bool := appl r.f0 r.f1 r.f2.f0 r.f2.f1 r.f3 r.f4 r.f5.f0 r.f5.f1 qo qs qt
def befS (a b : S84) : Bool := befo a.f0 a.f1 a.f4 a.f5.f0 a.f5.f1 b.f0 b.f1 b.f4 b.f5.f0 b.f5.f1
def dFrom (xs : List S84) (qo qs qt : Int) : List S84 → Nat → Int → Int
  | [], _, b => b
  | r :: rs, i, b => dFrom xs qo qs qt rs (i + 1) (if (appS r qo qs qt && (decide (b < 0) || befS r (rd_T84 xs b))) = true then (i : Int) else b)
def decM (xs : List S84) (qo qs qt : Int) : Int := dFrom xs qo qs qt xs 0 (-1)
theorem dFrom_range (xs : List S84) (qo qs qt : Int) : ∀ (rs : List S84) (i : Nat) (b : Int), -1 ≤ b → b < i → -1 ≤ dFrom xs qo qs qt rs i b ∧ dFrom xs qo qs qt rs i b < i + rs.length
  | [], i, b, h0, h1 => by simp [dFrom]; omega
  | r :: rs, i, b, h0, h1 => by
    simp only [dFrom]
    have := dFrom_range xs qo qs qt rs (i + 1) (if (appS r qo qs qt && (decide (b < 0) || befS r (rd_T84 xs b))) = true then (i : Int) else b) (by split <;> omega) (by split <;> omega)
    simp only [List.length_cons]
    omega
theorem decM_range (xs : List S84) (qo qs qt : Int) : -1 ≤ decM xs qo qs qt ∧ decM xs qo qs qt < xs.length := by
  have := dFrom_range xs qo qs qt xs 0 (-1) (by omega) (by omega)
  simpa [decM] using this

def aFrom (qo qs qt : Int) : List S84 → Nat → List Int
  | [], _ => []
  | r :: rs, i => (if appS r qo qs qt = true then [(i : Int)] else []) ++ aFrom qo qs qt rs (i + 1)
theorem aFrom_mem (qo qs qt : Int) : ∀ (rs : List S84) (i : Nat) (x : Int), x ∈ aFrom qo qs qt rs i → (i : Int) ≤ x ∧ x < i + rs.length
  | [], i, x, h => by simp [aFrom] at h
  | r :: rs, i, x, h => by
    simp only [aFrom, List.mem_append] at h
    rcases h with h | h
    · split at h
      · simp at h; simp; omega
      · simp at h
    · have := aFrom_mem qo qs qt rs (i + 1) x h
      simp; omega
theorem aFrom_len (qo qs qt : Int) : ∀ (rs : List S84) (i : Nat), (aFrom qo qs qt rs i).length ≤ rs.length
  | [], i => by simp [aFrom]
  | r :: rs, i => by
    have := aFrom_len qo qs qt rs (i + 1)
    simp only [aFrom, List.length_append, List.length_cons]
    split <;> simp <;> omega

def shadP (a r : S84) : Bool := isRul r.f0 r.f1 r.f2.f0 r.f2.f1 r.f3 r.f4 r.f5.f0 r.f5.f1 && (befo r.f0 r.f1 r.f4 r.f5.f0 r.f5.f1 a.f0 a.f1 a.f4 a.f5.f0 a.f5.f1 && (narr a.f2.f0 a.f2.f1 r.f2.f0 r.f2.f1 && (decide (r.f3 = 0) || decide (r.f3 = a.f3))))
theorem shadP_self (a : S84) : shadP a a = false := by
  have : befo a.f0 a.f1 a.f4 a.f5.f0 a.f5.f1 a.f0 a.f1 a.f4 a.f5.f0 a.f5.f1 = false := by unfold befo; simp
  unfold shadP; rw [this]; simp
def shadA (xs : List S84) (a : S84) : Bool := isRul a.f0 a.f1 a.f2.f0 a.f2.f1 a.f3 a.f4 a.f5.f0 a.f5.f1 && xs.any (shadP a)
def shad (xs : List S84) (x : Int) : Bool := if h : 0 ≤ x ∧ x < xs.length then shadA xs (xs[x.toNat]'(by omega)) else false

def shL (xs : List S84) (n d : Nat) : List Int := ((List.range' n d).filter fun j : Nat => shad xs (j : Int)).map fun (j : Nat) => (j : Int)
theorem shL_len (xs : List S84) (n d : Nat) : (shL xs n d).length ≤ d := by
  unfold shL
  rw [List.length_map]
  have := List.length_filter_le (fun j : Nat => shad xs (j : Int)) (List.range' n d)
  simpa using this
theorem shL_succ (xs : List S84) (n d : Nat) : shL xs n (d + 1) = (if shad xs (n : Int) = true then [(n : Int)] else []) ++ shL xs (n + 1) d := by
  unfold shL
  rw [List.range'_succ, List.filter_cons]
  split <;> simp


theorem bind_ok {α β : Type} {o : Option α} {f : α → Option β} {Q : α → Prop} {R : β → Prop} (h : ∃ r, o = some r ∧ Q r) (hf : ∀ r, Q r → ∃ y, f r = some y ∧ R y) : ∃ y, o.bind f = some y ∧ R y := by
  obtain ⟨r, rfl, q⟩ := h; exact hf r q
theorem if_ok {β : Type} {p : Prop} [Decidable p] {a b : Option β} {R : β → Prop} (h : p → ∃ y, a = some y ∧ R y) (h' : ¬ p → ∃ y, b = some y ∧ R y) : ∃ y, (if p then a else b) = some y ∧ R y := by
  by_cases c : p
  · rw [if_pos c]; exact h c
  · rw [if_neg c]; exact h' c
theorem and255 (a : Int) : 0 ≤ Go.bits .and .i64 a 255 ∧ Go.bits .and .i64 a 255 ≤ 255 := by
  have h : ((BitVec.ofInt (IntKind.bits .i64) a) &&& (BitVec.ofInt (IntKind.bits .i64) 255)).toNat ≤ 255 := by
    rw [BitVec.toNat_and]; exact Nat.le_trans Nat.and_le_right (by decide)
  show 0 ≤ IntKind.wrap .i64 _ ∧ IntKind.wrap .i64 _ ≤ 255
  generalize ((BitVec.ofInt (IntKind.bits .i64) a) &&& (BitVec.ofInt (IntKind.bits .i64) 255)).toNat = n at h
  have e : IntKind.wrap .i64 (n : Int) = (n : Int) := by rw [i64_w]; exact wr (i := (n : Int)) (by omega) (by omega)
  rw [e]; omega

theorem new_ok (s : List Int) (hs : s.length ≤ 1048576) : ∀ (d k : Nat) (y : Int) (i : Nat), i + d = s.length → d < k → ∃ r, spec_l1New.l0 k s y (i : Int) = some r ∧ r.1 = s ∧ r.2.1 = 0 := by
  intro d
  induction d with
  | zero =>
    intro k y i hi hk
    obtain ⟨k, rfl⟩ : ∃ m, k = m + 1 := ⟨k - 1, by omega⟩
    simp only [spec_l1New.l0]
    rw [if_neg (by omega)]
    exact ⟨_, rfl, rfl, rfl⟩
  | succ d ih =>
    intro k y i hi hk
    obtain ⟨k, rfl⟩ : ∃ m, k = m + 1 := ⟨k - 1, by omega⟩
    simp only [spec_l1New.l0]
    rw [if_pos (by omega)]
    refine if_ok (fun _ => ?_) (fun _ => ⟨_, rfl, rfl, rfl⟩)
    rw [if_pos (by omega), wr (i := (i : Int) + 1) (by omega) (by omega)]
    exact ih k _ (i + 1) (by omega) (by omega)
theorem l1New_ok (k : Nat) (s : List Int) (hs : s.length ≤ 1048576) (hk : s.length < k) : ∃ r, spec_l1New.f k s = some r ∧ r.1 = s ∧ r.2.1 = 0 := by
  unfold spec_l1New.f
  exact new_ok s hs s.length k _ 0 (by omega) hk


theorem byte_ok (s : List Int) (p x : Int) (hs : s.length ≤ 1048576) (hp : 0 ≤ p) : ∃ r, spec_l1Byte.f s p x = some r ∧ (0 ≤ r.1 ∧ r.1 ≤ 255) ∧ 0 ≤ r.2.1 := by
  unfold spec_l1Byte.f
  refine if_ok (fun h => ?_) (fun _ => ⟨_, rfl, and255 _, hp⟩)
  rw [if_pos hp, wr (i := p + 1) (by omega) (by omega)]
  exact ⟨_, rfl, and255 _, by show (0 : Int) ≤ p + 1; omega⟩


theorem below_ok (s : List Int) (p x n : Int) (hs : s.length ≤ 1048576) (hp : 0 ≤ p) (h0 : 0 < n) (h1 : n ≤ 256) : ∃ r, spec_l1Below.f s p x n = some r ∧ (0 ≤ r.1 ∧ r.1 < n) ∧ 0 ≤ r.2.1 := by
  unfold spec_l1Below.f
  rw [if_neg (by omega), if_pos h1]
  refine bind_ok (byte_ok s p x hs hp) fun r hr => ?_
  rw [if_neg (by omega)]
  exact ⟨_, rfl, ⟨Int.tmod_nonneg _ hr.1.1, Int.tmod_lt_of_pos _ h0⟩, hr.2⟩


theorem once_ok (s : List Int) (p x n : Int) (hs : s.length ≤ 1048576) (hp : 0 ≤ p) (h0 : 0 < n) (h1 : n ≤ 256) : ∃ r, spec_l1Once.f s p x n = some r ∧ 0 ≤ r.2.1 := by
  unfold spec_l1Once.f
  exact bind_ok (below_ok s p x n hs hp h0 h1) fun r hr => ⟨_, rfl, hr.2⟩


theorem site_ok (s : List Int) (p x : Int) (hs : s.length ≤ 1048576) (hp : 0 ≤ p) : ∃ r, spec_l9Site.f s p x = some r ∧ 0 ≤ r.2.2.1 := by
  unfold spec_l9Site.f
  exact bind_ok (below_ok s p x _ hs hp (by omega) (by omega)) fun r hr => bind_ok (below_ok s _ _ _ hs hr.2 (by omega) (by omega)) fun r hr => ⟨_, rfl, hr.2⟩


theorem pattern_ok (s : List Int) (p x : Int) (hs : s.length ≤ 1048576) (hp : 0 ≤ p) : ∃ r, spec_l9Pattern.f s p x = some r ∧ 0 ≤ r.2.2.1 := by
  unfold spec_l9Pattern.f
  exact bind_ok (below_ok s p x _ hs hp (by omega) (by omega)) fun r hr => bind_ok (below_ok s _ _ _ hs hr.2 (by omega) (by omega)) fun r hr => ⟨_, rfl, hr.2⟩


theorem int_ok (s : List Int) (p x : Int) (l : List Int) (hs : s.length ≤ 1048576) (hp : 0 ≤ p) (h0 : 0 < l.length) (h1 : l.length ≤ 256) : ∃ r, spec_l1Int.f s p x l = some r ∧ 0 ≤ r.2.1 := by
  unfold spec_l1Int.f
  refine bind_ok (below_ok s p x _ hs hp (by omega) (by omega)) fun r hr => ?_
  rw [if_pos hr.1.1, if_pos hr.1.2]
  exact ⟨_, rfl, hr.2⟩


theorem raw_ok (s : List Int) (p x : Int) (hs : s.length ≤ 1048576) (hp : 0 ≤ p) : ∃ r, spec_l9Raw.f s p x = some r ∧ 0 ≤ r.2.1 := by
  unfold spec_l9Raw.f
  exact bind_ok (int_ok s p x _ hs hp (by decide) (by decide)) fun r hr => ⟨_, rfl, hr⟩


theorem request_ok (s : List Int) (p x : Int) (hs : s.length ≤ 1048576) (hp : 0 ≤ p) : ∃ r, spec_l13Request.f s p x = some r ∧ 0 ≤ r.2.2.2.1 := by
  unfold spec_l13Request.f
  exact bind_ok (site_ok s p x hs hp) fun r hr => bind_ok (below_ok s _ _ _ hs hr (by omega) (by omega)) fun r2 h2 => ⟨_, rfl, h2.2⟩

theorem impl_in (a b c : Int) : impl_InRange.f a b c = some (inR a b c) := by
  unfold impl_InRange.f inR; exact and_if _ _

theorem impl_pat (a b : Int) : impl_IsPattern.f a b = some (isPat a b) := by
  unfold impl_IsPattern.f isPat; simp only [impl_in, Option.bind_some]; cases inR a 0 9 <;> simp

theorem or5 (n : Nat) (a b c d e : Int) : cmp_Or_int.f (n + 6) [a, b, c, d, e] = some (if a = 0 then (if b = 0 then (if c = 0 then (if d = 0 then e else d) else c) else b) else a) := by
  have w0 : wrap64 (0 + 1) = 1 := wr (by omega) (by omega)
  have w1 : wrap64 (1 + 1) = 2 := wr (by omega) (by omega)
  have w2 : wrap64 (2 + 1) = 3 := wr (by omega) (by omega)
  have w3 : wrap64 (3 + 1) = 4 := wr (by omega) (by omega)
  have w4 : wrap64 (4 + 1) = 5 := wr (by omega) (by omega)
  unfold cmp_Or_int.f
  simp only [cmp_Or_int.l0, w0, w1, w2, w3, w4]
  by_cases h1 : a = 0 <;> by_cases h2 : b = 0 <;> by_cases h3 : c = 0 <;> by_cases h4 : d = 0 <;> by_cases h5 : e = 0 <;> simp [h1, h2, h3, h4, h5, rd]

theorem cmp_eq (a b : Int) : cmp_Compare_int.f a b = some (if a < b then -1 else if a > b then 1 else 0) := by
  unfold cmp_Compare_int.f cmp_isNaN_int.f; simp only [Option.bind_some, bne_self_eq_false]
  by_cases h1 : a < b <;> by_cases h2 : a > b <;> simp [h1, h2]

theorem impl_sit (a b : Int) : impl_IsSite.f a b = some (isSit a b) := by
  unfold impl_IsSite.f isSit; simp only [impl_in, Option.bind_some]; cases inR a 1 9 <;> simp

theorem impl_req (o s t : Int) : impl_IsRequest.f o s t = some (isReq o s t) := by
  unfold impl_IsRequest.f isReq; simp only [impl_sit, impl_in, Option.bind_some]
  cases isSit o s <;> simp

theorem spec_in (a b c : Int) : spec_l1In.f a b c = some (inR a b c) := by
  unfold spec_l1In.f inR; exact and_if _ _

theorem spec_pat (a b : Int) : spec_IsPattern.f a b = some (isPat a b) := by
  unfold spec_IsPattern.f isPat; simp only [spec_in, Option.bind_some]; cases inR a 0 9 <;> simp

theorem spec_sit (a b : Int) : spec_IsSite.f a b = some (isSit a b) := by
  unfold spec_IsSite.f isSit; simp only [spec_in, Option.bind_some]; cases inR a 1 9 <;> simp

theorem spec_req (o s t : Int) : spec_IsRequest.f o s t = some (isReq o s t) := by
  unfold spec_IsRequest.f isReq; simp only [spec_sit, spec_in, Option.bind_some]
  cases isSit o s <;> simp

theorem spec_befo (a0 a1 a2 a3 a4 a5 a6 a7 b0 b1 b2 b3 b4 b5 b6 b7 : Int) : spec_IsBefore.f a0 a1 a2 a3 a4 a5 a6 a7 b0 b1 b2 b3 b4 b5 b6 b7 = some (befo a0 a1 a5 a6 a7 b0 b1 b5 b6 b7) := by
  unfold spec_IsBefore.f befo
  by_cases h1 : a1 = b1 <;> by_cases h2 : a5 = b5 <;> by_cases h3 : a0 = b0 <;> by_cases h4 : a6 = b6 <;> simp [h1, h2, h3, h4]


theorem rdIntC (xs : List Int) (i : Nat) (h : i < xs.length) : rd xs (i : Int) = xs[i] := rd_at _ xs i h
theorem contains_eq (k : Nat) (xs : List Int) (o : Int) (hn : xs.length ≤ 9223372036854775806) (hk : xs.length < k) : laws_contains.f k xs o = some (decide (o ∈ xs)) := by
  have L := loop_run 0 (fun k (_ : Unit) i => laws_contains.l0 k xs o i) xs.length (fun _ i => decide (o ∈ xs.drop i)) (fun _ _ => True) hn
    (fun k s i hm hi hI ih => by
      simp only [laws_contains.l0]
      rw [if_pos (by omega), if_pos (by omega), rdIntC _ _ hi, drop_at _ _ hi, ih () trivial]
      by_cases h : xs[i] = o
      · rw [if_pos h]; simp [h]
      · have e : (o ∈ xs[i] :: xs.drop (i + 1)) ↔ o ∈ xs.drop (i + 1) := by
          rw [List.mem_cons]; exact or_iff_right (fun e => h e.symm)
        rw [if_neg h, decide_eq_decide.2 e])
    (fun k s hm hI => by
      simp only [laws_contains.l0]
      rw [if_neg nlt, List.drop_of_length_le (Nat.le_refl _)]
      rfl) k hk () trivial
  try dsimp only at L
  unfold laws_contains.f
  rw [L, List.drop_zero]


theorem within_eq (k : Nat) (xs ys : List Int) (hn : xs.length ≤ 1048576) (hy : ys.length ≤ 1048576) (hk : xs.length + (ys.length + 2) < k) : laws_within.f k xs ys = some (xs.all fun x => decide (x ∈ ys)) := by
  have L := loop_run (ys.length + 2) (fun k (_ : Unit) i => laws_within.l0 k xs ys i) xs.length (fun _ i => (xs.drop i).all fun x => decide (x ∈ ys)) (fun _ _ => True) (by omega)
    (fun k s i hm hi hI ih => by
      simp only [laws_within.l0]
      rw [if_pos (by omega), if_pos (by omega), rdIntC _ _ hi, contains_eq k ys _ (by omega) (by omega), Option.bind_some, drop_at _ _ hi, ih () trivial, List.all_cons]
      by_cases h : xs[i] ∈ ys <;> simp [h])
    (fun k s hm hI => by
      simp only [laws_within.l0]
      rw [if_neg nlt, List.drop_of_length_le (Nat.le_refl _)]
      rfl) k hk () trivial
  try dsimp only at L
  unfold laws_within.f
  rw [L, List.drop_zero]


theorem l13_ok (s : List Int) (p x : Int) (hs : s.length ≤ 1048576) (hp : 0 ≤ p) : ∃ r, spec_l13Draw.f s p x = some r ∧ 0 ≤ r.2.2.2.2.2.2.2.2.1 := by
  unfold spec_l13Draw.f
  exact bind_ok (below_ok s p x _ hs hp (by omega) (by omega)) fun r1 h1 => bind_ok (below_ok s _ _ _ hs h1.2 (by omega) (by omega)) fun r2 h2 => bind_ok (pattern_ok s _ _ hs h2.2) fun r3 h3 =>
    bind_ok (below_ok s _ _ _ hs h3 (by omega) (by omega)) fun r4 h4 => bind_ok (below_ok s _ _ _ hs h4.2 (by omega) (by omega)) fun r5 h5 => if_ok (fun _ => bind_ok (site_ok s _ _ hs h5.2) fun r6 h6 => ⟨_, rfl, h6⟩) (fun _ => ⟨_, rfl, h5.2⟩)


theorem l13_l0 (s : List Int) (hs : s.length ≤ 1048576) : ∀ (d k : Nat) (xs : List S84) (p x : Int), d < k → xs.length + d ≤ 1000 → 0 ≤ p → ∃ r, spec_l13List.l0 k xs (d : Int) s p x = some r ∧ r.1.length ≤ xs.length + d ∧ 0 ≤ r.2.1 := by
  intro d
  induction d with
  | zero =>
    intro k xs p x hk hl hp
    obtain ⟨k, rfl⟩ : ∃ m, k = m + 1 := ⟨k - 1, by omega⟩
    simp only [spec_l13List.l0]
    rw [if_neg (by omega)]
    exact ⟨_, rfl, Nat.le_refl _, hp⟩
  | succ d ih =>
    intro k xs p x hk hl hp
    obtain ⟨k, rfl⟩ : ∃ m, k = m + 1 := ⟨k - 1, by omega⟩
    simp only [spec_l13List.l0]
    rw [if_pos (by omega)]
    refine bind_ok (l13_ok s p x hs hp) fun r hr => ?_
    rw [if_pos (by omega), wr (by omega) (by omega), show (((d + 1 : Nat) : Int) - 1) = (d : Int) by omega]
    obtain ⟨r2, e, h1, h2⟩ := ih k (xs ++ [⟨r.1, r.2.1, ⟨r.2.2.1, r.2.2.2.1⟩, r.2.2.2.2.1, r.2.2.2.2.2.1, ⟨r.2.2.2.2.2.2.1, r.2.2.2.2.2.2.2.1⟩⟩]) r.2.2.2.2.2.2.2.2.1 r.2.2.2.2.2.2.2.2.2 (by omega) (by simp; omega) hr
    simp only [List.length_append, List.length_singleton] at h1
    exact ⟨r2, e, by omega, h2⟩
theorem l13list_ok (k : Nat) (s : List Int) (p x : Int) (hs : s.length ≤ 1048576) (hk : 20 < k) (hp : 0 ≤ p) : ∃ r, spec_l13List.f k s p x = some r ∧ r.1.length ≤ 20 ∧ 0 ≤ r.2.1 := by
  unfold spec_l13List.f
  refine bind_ok (below_ok s p x _ hs hp (by omega) (by omega)) fun r hr => ?_
  obtain ⟨r2, e, h1, h2⟩ := l13_l0 s hs r.1.toNat k [] r.2.1 r.2.2 (by omega) (by simp; omega) hr.2
  rw [show ((r.1.toNat : Nat) : Int) = r.1 by omega] at e
  exact ⟨r2, e, by simp at h1; omega, h2⟩


theorem any_ok (s : List Int) (p x : Int) (hs : s.length ≤ 1048576) (hp : 0 ≤ p) : ∃ r, spec_l9Any.f s p x = some r ∧ 0 ≤ r.2.2.1 := by
  unfold spec_l9Any.f
  refine bind_ok (pattern_ok s p x hs hp) fun r hr => bind_ok (below_ok s _ _ _ hs hr (by omega) (by omega)) fun r2 hr2 => if_ok (fun _ => ?_) (fun _ => if_ok (fun _ => ?_) (fun _ => ?_))
  · exact bind_ok (raw_ok s _ _ hs hr2.2) fun r3 hr3 => ⟨_, rfl, hr3⟩
  · exact bind_ok (raw_ok s _ _ hs hr2.2) fun r3 hr3 => ⟨_, rfl, hr3⟩
  · exact ⟨_, rfl, hr2.2⟩


theorem l13any_ok (s : List Int) (p x : Int) (hs : s.length ≤ 1048576) (hp : 0 ≤ p) : ∃ r, spec_l13Any.f s p x = some r ∧ 0 ≤ r.2.2.2.2.2.2.2.2.1 := by
  unfold spec_l13Any.f
  refine bind_ok (l13_ok s p x hs hp) fun r1 h1 => bind_ok (below_ok s _ _ _ hs h1 (by omega) (by omega)) fun r2 h2 => ?_
  repeat' first
    | (refine if_ok (fun _ => ?_) (fun _ => ?_))
    | (refine bind_ok (raw_ok s _ _ hs h2.2) fun r3 h3 => ?_)
    | (refine bind_ok (int_ok s _ _ _ hs h2.2 (by decide) (by decide)) fun r3 h3 => ?_)
    | (refine bind_ok (any_ok s _ _ hs h2.2) fun r3 h3 => ?_)
    | (refine bind_ok (site_ok s _ _ hs h2.2) fun r3 h3 => ?_)
    | (refine ⟨_, rfl, ?_⟩; first | exact h2.2 | assumption)


theorem drawDecide_ok (k : Nat) (s : List Int) (hs : s.length ≤ 1048576) (hk : s.length + 200 < k) : ∃ r, spec_DrawDecideRule.f k s = some r ∧ r.1.length ≤ 20 := by
  obtain ⟨k, rfl⟩ : ∃ m, k = m + 1 := ⟨k - 1, by omega⟩
  unfold spec_DrawDecideRule.f
  refine bind_ok (l1New_ok (k + 1) s hs (by omega)) fun r hr => ?_
  obtain ⟨e1, e2⟩ := hr
  rw [e1]
  refine bind_ok (l13list_ok (k + 1) s _ _ hs (by omega) (by omega)) fun r2 h2 => if_ok (fun hc => ?_) (fun _ => ?_)
  · refine bind_ok (once_ok s _ _ _ hs h2.2 (by omega) (by omega)) fun r3 h3 => ?_
    simp only [spec_DrawDecideRule.j0]
    refine if_ok (fun _ => ?_) (fun _ => bind_ok (request_ok s _ _ hs h3) fun r4 h4 => ⟨_, rfl, h2.1⟩)
    refine bind_ok (l13any_ok s _ _ hs h3) fun r4 h4 => ?_
    rw [if_pos (by omega)]
    exact bind_ok (request_ok s _ _ hs h4) fun r5 h5 => ⟨_, rfl, by simp only [List.length_set]; exact h2.1⟩
  · simp only [spec_DrawDecideRule.j0]
    rw [if_neg (by decide)]
    exact bind_ok (request_ok s _ _ hs h2.2) fun r4 h4 => ⟨_, rfl, h2.1⟩


theorem impl_narr (a b c d : Int) : impl_IsNarrower.f a b c d = some (narr a b c d) := by
  unfold impl_IsNarrower.f narr; simp only [impl_pat, Option.bind_some]
  cases isPat a b <;> cases isPat c d <;> simp
  by_cases h1 : c = 0 <;> by_cases h2 : a = c <;> by_cases h3 : d = -1 <;> simp [h1, h2, h3] <;> simp [beq_dec]

theorem impl_befo (n : Nat) (a0 a1 a2 a3 a4 a5 a6 a7 b0 b1 b2 b3 b4 b5 b6 b7 : Int) : impl_IsBefore.f (n + 6) a0 a1 a2 a3 a4 a5 a6 a7 b0 b1 b2 b3 b4 b5 b6 b7 = some (befo a0 a1 a5 a6 a7 b0 b1 b5 b6 b7) := by
  unfold impl_IsBefore.f impl_compareRules.f befo; simp only [cmp_eq, or5, Option.bind_some]
  rcases Int.lt_trichotomy a1 b1 with h | h | h
  · simp [show ¬ b1 < a1 by omega, show b1 > a1 by omega, show ¬ a1 = b1 by omega]
  · subst h
    rcases Int.lt_trichotomy a5 b5 with h | h | h
    · simp [h, show ¬ a5 = b5 by omega]
    · subst h
      rcases Int.lt_trichotomy a0 b0 with h | h | h
      · simp [h, show ¬ a0 = b0 by omega]
      · subst h
        rcases Int.lt_trichotomy a6 b6 with h | h | h
        · simp [h, show ¬ a6 = b6 by omega]
        · subst h
          rcases Int.lt_trichotomy a7 b7 with h | h | h
          · simp [h]
          · subst h; simp
          · simp [h, show ¬ a7 < b7 by omega]
        · simp [h, show ¬ a6 < b6 by omega, show ¬ a6 = b6 by omega]
      · simp [h, show ¬ a0 < b0 by omega, show ¬ a0 = b0 by omega]
    · simp [h, show ¬ a5 < b5 by omega, show ¬ a5 = b5 by omega]
  · simp [h, show ¬ a1 = b1 by omega]

theorem impl_rul (n : Nat) (e p po ps s a o b : Int) : impl_IsRule.f (n + 2) e p po ps s a o b = some (isRul e p po ps s a o b) := by
  unfold impl_IsRule.f isRul; simp only [impl_in, impl_pat, Option.bind_some, impl_IsRule.j0, impl_IsRule.j1, impl_sit]
  cases inR e 1 5 <;> cases inR p 1 9 <;> cases isPat po ps <;> cases inR s 0 4 <;> simp
  by_cases h1 : a = 1
  · subst h1; simp [beq_dec]
  · by_cases h2 : a = 2
    · subst h2; simp [beq_dec]
    · by_cases h3 : a = 3
      · subst h3; simp
      · simp [h1, h2, h3]



theorem impl_shad_l (k : Nat) (xs : List S84) (p : Nat) (hp : p < xs.length) (hn : xs.length ≤ 1048576) (hk : xs.length + 8 < k) : impl_IsShadowed.l0 k xs (p : Int) xs (xs.length : Int) 0 = some (xs.any (shadP xs[p])) := by
  have hpi : ∀ i (hi : i < xs.length), i = p → xs[i] = xs[p] := fun i hi e => by subst e; rfl
  have ha := rdRule_i xs p hp
  generalize xs[p] = a at ha hpi
  have L := loop_run 8 (fun k (_ : Unit) i => impl_IsShadowed.l0 k xs (p : Int) xs (xs.length : Int) i) xs.length (fun _ i => (xs.drop i).any (shadP a)) (fun _ _ => True) (by omega)
    (fun k u_ i hm hi hI ih => by
      have hd := drop_at xs i hi
      have hr := rdRule_i xs i hi
      have hpi' := hpi i hi
      generalize xs[i] = r at hd hr hpi'
      have ih' := ih () trivial
      try dsimp only at ih'
      simp only [impl_IsShadowed.l0]
      rw [if_pos (by omega), if_pos (by omega), if_pos (by omega)]
      by_cases hip : i = p
      · rw [if_pos (by omega), ih', hd, List.any_cons, hpi' hip, shadP_self, Bool.false_or]
      · rw [if_neg (by omega)]
        simp only [hr, ha]
        obtain ⟨k, rfl⟩ : ∃ z, k = z + 6 := ⟨k - 6, by omega⟩
        rw [if_pos (show (0 : Int) ≤ (p : Int) by omega), if_pos (show (p : Int) < (xs.length : Int) by omega)]
        rw [hd, List.any_cons, ih']
        rw [show k + 6 = (k + 4) + 2 from rfl, impl_rul, show (k + 4) + 2 = k + 6 from rfl, Option.bind_some, impl_befo, Option.bind_some, impl_narr, Option.bind_some]
        unfold shadP
        cases isRul r.f0 r.f1 r.f2.f0 r.f2.f1 r.f3 r.f4 r.f5.f0 r.f5.f1
        · simp
        · cases befo r.f0 r.f1 r.f4 r.f5.f0 r.f5.f1 a.f0 a.f1 a.f4 a.f5.f0 a.f5.f1
          · simp
          · cases narr a.f2.f0 a.f2.f1 r.f2.f0 r.f2.f1
            · simp
            · by_cases h1 : r.f3 = 0
              · simp [h1]
              · by_cases h2 : r.f3 = a.f3 <;> simp [h1, h2])
    (fun k u_ hm hI => by
      simp only [impl_IsShadowed.l0]
      rw [if_neg nlt, List.drop_of_length_le (Nat.le_refl _)]
      rfl) k hk () trivial
  try dsimp only at L
  rw [L, List.drop_zero]
theorem impl_shad (k : Nat) (xs : List S84) (x : Int) (hn : xs.length ≤ 1048576) (hk : xs.length + 20 < k) : impl_IsShadowed.f k xs x = some (shad xs x) := by
  obtain ⟨k, rfl⟩ : ∃ m, k = m + 2 := ⟨k - 2, by omega⟩
  unfold impl_IsShadowed.f
  by_cases h0 : x < 0
  · have e : shad xs x = false := by unfold shad; rw [dif_neg (by omega)]
    rw [if_pos h0, e]; simp [impl_IsShadowed.j0]
  · by_cases h1 : x ≥ xs.length
    · have e : shad xs x = false := by unfold shad; rw [dif_neg (by omega)]
      rw [if_neg h0, if_pos h1, e]; simp [impl_IsShadowed.j0]
    · obtain ⟨p, rfl⟩ : ∃ p : Nat, x = p := ⟨x.toNat, by omega⟩
      have hp : p < xs.length := by omega
      have e : shad xs (p : Int) = shadA xs xs[p] := by unfold shad; rw [dif_pos (by omega)]; simp
      rw [e, if_neg h0, if_neg h1, if_pos (by omega), if_pos (by omega)]
      rw [rdRule_i xs p hp]
      rw [impl_rul, Option.bind_some]
      simp only [impl_IsShadowed.j0, impl_shad_l (k + 1) xs p hp hn (by omega)]
      unfold shadA
      cases isRul xs[p].f0 xs[p].f1 xs[p].f2.f0 xs[p].f2.f1 xs[p].f3 xs[p].f4 xs[p].f5.f0 xs[p].f5.f1 <;> simp



theorem impl_shl (xs : List S84) (hn : xs.length ≤ 1048576) : ∀ (d k n : Nat) (c : List Int), n + d = xs.length → c.length ≤ n → d + xs.length + 30 < k → impl_ShadowedRules.l0 k xs c (xs.length : Int) (n : Int) = some (c ++ shL xs n d) := by
  intro d
  induction d with
  | zero =>
    intro k n c hi hc hk
    obtain ⟨k, rfl⟩ : ∃ m, k = m + 1 := ⟨k - 1, by omega⟩
    simp only [impl_ShadowedRules.l0]
    rw [if_neg (by omega)]
    simp [shL]
  | succ d ih =>
    intro k n c hi hc hk
    obtain ⟨k, rfl⟩ : ∃ m, k = m + 1 := ⟨k - 1, by omega⟩
    simp only [impl_ShadowedRules.l0]
    rw [if_pos (by omega), impl_shad k xs _ hn (by omega), Option.bind_some, wr (by omega) (by omega), show (n : Int) + 1 = ((n + 1 : Nat) : Int) by omega, shL_succ]
    cases shad xs (n : Int)
    · simp only [Bool.false_eq_true, if_false, List.nil_append]
      exact ih k (n + 1) c (by omega) (by omega) (by omega)
    · simp only [if_true]
      rw [if_pos (by omega), ← List.append_assoc]
      exact ih k (n + 1) (c ++ [(n : Int)]) (by omega) (by simp; omega) (by omega)
theorem impl_Shadowed_eq (k : Nat) (xs : List S84) (hn : xs.length ≤ 1048576) (hk : xs.length + xs.length + 40 < k) : impl_ShadowedRules.f k xs = some (shL xs 0 xs.length) := by
  unfold impl_ShadowedRules.f
  have := impl_shl xs hn xs.length k 0 [] (by omega) (by simp) (by omega)
  rw [show ((0 : Nat) : Int) = 0 from rfl] at this
  rw [this, List.nil_append]

theorem impl_mtch (a b c d : Int) : impl_MatchSite.f a b c d = some (mtch a b c d) := by
  unfold impl_MatchSite.f mtch; simp only [impl_pat, impl_sit, Option.bind_some]
  cases isPat a b <;> cases isSit c d <;> simp
  by_cases h1 : a = 0 <;> by_cases h2 : a = c <;> by_cases h3 : b = -1 <;> simp [h1, h2, h3] <;> simp [beq_dec]

theorem impl_appl (n : Nat) (e p po ps s a o b qo qs qt : Int) : impl_Applies.f (n + 2) e p po ps s a o b qo qs qt = some (appl e p po ps s a o b qo qs qt) := by
  unfold impl_Applies.f appl; simp only [impl_rul, impl_req, impl_mtch, Option.bind_some]
  cases isRul e p po ps s a o b <;> cases isReq qo qs qt <;> cases mtch po ps qo qs <;> by_cases h : s = 0 <;> simp [h, beq_dec]

theorem impl_DecideRule_eq (k : Nat) (xs : List S84) (qo qs qt : Int) (hn : xs.length ≤ 1048576) (hk : xs.length + 6 < k) : impl_DecideRule.f k xs qo qs qt = some (decM xs qo qs qt) := by
  have L := loop_run 6 (fun k (b : Int) i => impl_DecideRule.l0 k xs b xs (xs.length : Int) i qo qs qt) xs.length (fun b i => dFrom xs qo qs qt (xs.drop i) i b) (fun b i => -1 ≤ b ∧ b < i) (by omega)
    (fun k b i hm hi hI ih => by
      have hd := drop_at xs i hi
      have hr := rdRule_i xs i hi
      generalize xs[i] = r at hd hr
      obtain ⟨h0, h1⟩ := hI
      simp only [impl_DecideRule.l0]
      obtain ⟨k, rfl⟩ : ∃ z, k = z + 6 := ⟨k - 6, by omega⟩
      rw [if_pos (by omega), if_pos (by omega), if_pos (by omega), hr, hd]
      simp only [dFrom, impl_appl, impl_befo, Option.bind_some, impl_appl (k + 4)]
      have ih1 := ih i (by omega)
      have ih2 := ih b (by omega)
      try dsimp only at ih1 ih2
      unfold appS befS
      cases appl r.f0 r.f1 r.f2.f0 r.f2.f1 r.f3 r.f4 r.f5.f0 r.f5.f1 qo qs qt
      · simp only [Bool.false_and, Bool.false_eq_true, if_false]; exact ih2
      · by_cases hb : b < 0
        · simp only [hb, if_true, decide_true, Bool.true_or, Bool.and_true]; exact ih1
        · rw [if_pos rfl, if_neg hb, if_pos (by omega), if_pos (by omega)]
          have hb' : decide (b < 0) = false := decide_eq_false hb
          simp only [hb', Bool.false_or, Bool.true_and]
          split
          · exact ih1
          · exact ih2)
    (fun k b hm hI => by
      simp only [impl_DecideRule.l0]
      rw [if_neg nlt, List.drop_of_length_le (Nat.le_refl _)]
      rfl) k hk (-1) (by omega)
  try dsimp only at L
  unfold impl_DecideRule.f
  rw [L]
  rfl

theorem spec_mtch (a b c d : Int) : spec_MatchSite.f a b c d = some (mtch a b c d) := by
  unfold spec_MatchSite.f mtch; simp only [spec_pat, spec_sit, Option.bind_some]
  cases isPat a b <;> cases isSit c d <;> simp
  by_cases h1 : a = 0 <;> by_cases h2 : a = c <;> by_cases h3 : b = -1 <;> simp [h1, h2, h3] <;> simp [beq_dec]

theorem spec_rul (e p po ps s a o b : Int) : spec_IsRule.f e p po ps s a o b = some (isRul e p po ps s a o b) := by
  unfold spec_IsRule.f isRul; simp only [spec_in, spec_pat, Option.bind_some, spec_sit]
  cases inR e 1 5 <;> cases inR p 1 9 <;> cases isPat po ps <;> cases inR s 0 4 <;> simp
  by_cases h1 : a = 1
  · subst h1; simp [beq_dec, inR]
  · by_cases h2 : a = 2
    · subst h2; simp [beq_dec, inR]
    · by_cases h3 : a = 3
      · subst h3; cases isSit o b <;> simp [inR]
      · have : inR a 1 3 = false := by unfold inR; simp; omega
        simp [h1, h2, h3, this]

theorem spec_appl (e p po ps s a o b qo qs qt : Int) : spec_Applies.f e p po ps s a o b qo qs qt = some (appl e p po ps s a o b qo qs qt) := by
  unfold spec_Applies.f appl; simp only [spec_rul, spec_req, spec_mtch, Option.bind_some]
  cases isRul e p po ps s a o b <;> cases isReq qo qs qt <;> cases mtch po ps qo qs <;> by_cases h : s = 0 <;> simp [h, beq_dec]

theorem spec_DecideRule_eq (k : Nat) (xs : List S84) (qo qs qt : Int) (hn : xs.length ≤ 1048576) (hk : xs.length + 0 < k) : spec_DecideRule.f k xs qo qs qt = some (decM xs qo qs qt) := by
  have L := loop_run 0 (fun k (b : Int) i => spec_DecideRule.l0 k xs b i qo qs qt) xs.length (fun b i => dFrom xs qo qs qt (xs.drop i) i b) (fun b i => -1 ≤ b ∧ b < i) (by omega)
    (fun k b i hm hi hI ih => by
      have hd := drop_at xs i hi
      have hr := rdRule_i xs i hi
      generalize xs[i] = r at hd hr
      obtain ⟨h0, h1⟩ := hI
      simp only [spec_DecideRule.l0]
      rw [if_pos (by omega), if_pos (by omega), hr, hd]
      simp only [dFrom, spec_appl, spec_befo, Option.bind_some, Option.bind_some]
      have ih1 := ih i (by omega)
      have ih2 := ih b (by omega)
      try dsimp only at ih1 ih2
      unfold appS befS
      cases appl r.f0 r.f1 r.f2.f0 r.f2.f1 r.f3 r.f4 r.f5.f0 r.f5.f1 qo qs qt
      · simp only [Bool.false_and, Bool.false_eq_true, if_false]; exact ih2
      · by_cases hb : b < 0
        · simp only [hb, if_true, decide_true, Bool.true_or, Bool.and_true]; exact ih1
        · rw [if_pos rfl, if_neg hb, if_pos (by omega), if_pos (by omega)]
          have hb' : decide (b < 0) = false := decide_eq_false hb
          simp only [hb', Bool.false_or, Bool.true_and]
          split
          · exact ih1
          · exact ih2)
    (fun k b hm hI => by
      simp only [spec_DecideRule.l0]
      rw [if_neg nlt, List.drop_of_length_le (Nat.le_refl _)]
      rfl) k hk (-1) (by omega)
  try dsimp only at L
  unfold spec_DecideRule.f
  rw [L]
  rfl


def rulX (r : S84) : Bool := isRul r.f0 r.f1 r.f2.f0 r.f2.f1 r.f3 r.f4 r.f5.f0 r.f5.f1
def nvP (xs : List S84) (hs : List Int) (i : Nat) : Bool := rulX (rd_T84 xs (i : Int)) && !decide ((i : Int) ∈ hs)
def nvL (xs : List S84) (hs : List Int) (n d : Nat) : List Int := ((List.range' n d).filter (nvP xs hs)).map fun (n : Nat) => (n : Int)
theorem nvL_len (xs : List S84) (hs : List Int) (n d : Nat) : (nvL xs hs n d).length ≤ d := by
  unfold nvL
  have := List.length_filter_le (nvP xs hs) (List.range' n d)
  simp at this ⊢
  omega
theorem nvL_succ (xs : List S84) (hs : List Int) (n d : Nat) : nvL xs hs n (d + 1) = (if nvP xs hs n = true then [(n : Int)] else []) ++ nvL xs hs (n + 1) d := by
  unfold nvL
  rw [show List.range' n (d + 1) = n :: List.range' (n + 1) d from rfl, List.filter_cons]
  split <;> rfl
theorem nvL_congr (xs : List S84) (hs hs' : List Int) (h : ∀ i : Nat, (i : Int) ∈ hs ↔ (i : Int) ∈ hs') (n d : Nat) : nvL xs hs n d = nvL xs hs' n d := by
  unfold nvL
  rw [show nvP xs hs = nvP xs hs' from funext fun i => by unfold nvP; rw [decide_eq_decide.2 (h i)]]
def hit (xs : List S84) (n : Nat) : Int := decM xs ((1 + n / 10 % 9 : Nat) : Int) ((n % 10 : Nat) : Int) ((1 + n / 90 : Nat) : Int)
def nvM (xs : List S84) : List Int := nvL xs ((List.range' 0 360).map (hit xs)) 0 xs.length

def okB (xs : List S84) (B : List Bool) (hs : List Int) : Prop := B.length = xs.length ∧ ∀ i : Nat, i < xs.length → rdOf false B (i : Int) = decide ((i : Int) ∈ hs)
theorem rdB (B : List Bool) (i : Nat) (h : i < B.length) : rdOf false B (i : Int) = B[i] := rd_at _ B i h
theorem okB_set (xs : List S84) (B : List Bool) (hs : List Int) (v : Int) (h : okB xs B hs) (h0 : 0 ≤ v) (h1 : v < xs.length) : okB xs (B.set v.toNat true) (hs ++ [v]) := by
  obtain ⟨hl, hb⟩ := h
  refine ⟨by rw [List.length_set, hl], fun i hi => ?_⟩
  have := hb i hi
  rw [rdB _ i (by omega)] at this
  rw [rdB _ i (by rw [List.length_set]; omega), List.getElem_set]
  by_cases e : v.toNat = i
  · have e' : (i : Int) = v := by omega
    rw [if_pos e, e']; simp
  · have e' : ¬ (i : Int) = v := by omega
    rw [if_neg e, this]; simp [e']
theorem okB_no (xs : List S84) (B : List Bool) (hs : List Int) (v : Int) (h : okB xs B hs) (h0 : ¬ 0 ≤ v) : okB xs B (hs ++ [v]) := by
  obtain ⟨hl, hb⟩ := h
  refine ⟨hl, fun i hi => ?_⟩
  have e' : ¬ (i : Int) = v := by omega
  rw [hb i hi]; simp [e']
def h2 (xs : List S84) (o s : Nat) (t : Nat) : Int := decM xs (o : Int) (s : Int) (t : Int)
theorem impl_nv2 (xs : List S84) (hn : xs.length ≤ 1048576) (o s : Nat) (hs10 : s < 10) (F : Nat) (hF : xs.length + 10 ≤ F) (R : Option (List Int)) : ∀ (d k t : Nat) (B : List Bool) (hs : List Int), t + d = 5 → okB xs B hs → d + 1 + F < k →
    (∀ k' B', F < k' → okB xs B' (hs ++ (List.range' t d).map (h2 xs o s)) → impl_NeverChosen.l1 k' xs B' (o : Int) ((s + 1 : Nat) : Int) = R) → impl_NeverChosen.l2 k xs B (o : Int) (s : Int) (t : Int) (s : Int) = R := by
  intro d
  induction d with
  | zero =>
    intro k t B hs h1 hB hk hR
    obtain ⟨k, rfl⟩ : ∃ m, k = m + 1 := ⟨k - 1, by omega⟩
    rw [impl_NeverChosen.l2, if_neg (by omega), wr (by omega) (by omega)]
    exact hR k B (by omega) (by simpa using hB)
  | succ d ih =>
    intro k t B hs h1 hB hk hR
    obtain ⟨k, rfl⟩ : ∃ m, k = m + 1 := ⟨k - 1, by omega⟩
    have hr : (List.range' t (d + 1)).map (h2 xs o s) = [h2 xs o s t] ++ (List.range' (t + 1) d).map (h2 xs o s) := rfl
    rw [hr, ← List.append_assoc] at hR
    have hg : -1 ≤ h2 xs o s t ∧ h2 xs o s t < xs.length := decM_range xs _ _ _
    rw [impl_NeverChosen.l2, if_pos (by omega), impl_DecideRule_eq k xs _ _ _ hn (by omega), Option.bind_some, wr (i := (t : Int) + 1) (by omega) (by omega)]
    change (if h2 xs o s t ≥ 0 then (if 0 ≤ h2 xs o s t then (if h2 xs o s t < (B.length : Int) then impl_NeverChosen.l2 k xs (B.set (h2 xs o s t).toNat true) _ _ _ _ else none) else none) else _) = _
    by_cases h : h2 xs o s t ≥ 0
    · rw [if_pos h, if_pos h, if_pos (by rw [hB.1]; omega)]
      exact ih k (t + 1) _ _ (by omega) (okB_set xs B hs _ hB h hg.2) (by omega) hR
    · rw [if_neg h]
      exact ih k (t + 1) _ _ (by omega) (okB_no xs B hs _ hB h) (by omega) hR
def h1 (xs : List S84) (o s : Nat) : List Int := (List.range' 1 4).map (h2 xs o s)
theorem impl_nv1 (xs : List S84) (hn : xs.length ≤ 1048576) (o : Nat) (ho : o < 10) (F : Nat) (hF : xs.length + 10 ≤ F) (R : Option (List Int)) : ∀ (d k s : Nat) (B : List Bool) (hs : List Int), s + d = 10 → okB xs B hs → 6 * d + 1 + F < k →
    (∀ k' B', F < k' → okB xs B' (hs ++ (List.range' s d).flatMap (h1 xs o)) → impl_NeverChosen.l0 k' xs B' ((o + 1 : Nat) : Int) = R) → impl_NeverChosen.l1 k xs B (o : Int) (s : Int) = R := by
  intro d
  induction d with
  | zero =>
    intro k s B hs h1' hB hk hR
    obtain ⟨k, rfl⟩ : ∃ m, k = m + 1 := ⟨k - 1, by omega⟩
    rw [impl_NeverChosen.l1, if_neg (by omega), wr (by omega) (by omega)]
    exact hR k B (by omega) (by simpa using hB)
  | succ d ih =>
    intro k s B hs h1' hB hk hR
    obtain ⟨k, rfl⟩ : ∃ m, k = m + 1 := ⟨k - 1, by omega⟩
    have hr : (List.range' s (d + 1)).flatMap (h1 xs o) = h1 xs o s ++ (List.range' (s + 1) d).flatMap (h1 xs o) := rfl
    rw [hr, ← List.append_assoc] at hR
    rw [impl_NeverChosen.l1, if_pos (by omega)]
    exact impl_nv2 xs hn o s (by omega) (6 * d + 1 + F) (by omega) R 4 k 1 B hs (by omega) hB (by omega) fun k' B' hk' hB' => ih k' (s + 1) B' _ (by omega) hB' hk' hR
def h0 (xs : List S84) (o : Nat) : List Int := (List.range' 0 10).flatMap (h1 xs o)
theorem impl_nv0 (xs : List S84) (hn : xs.length ≤ 1048576) (F : Nat) (hF : xs.length + 10 ≤ F) (R : Option (List Int)) : ∀ (d k o : Nat) (B : List Bool) (hs : List Int), o + d = 10 → okB xs B hs → 63 * d + 1 + F < k →
    (∀ k' B', F < k' → okB xs B' (hs ++ (List.range' o d).flatMap (h0 xs)) → impl_NeverChosen.l3 k' B' [] xs (xs.length : Int) 0 = R) → impl_NeverChosen.l0 k xs B (o : Int) = R := by
  intro d
  induction d with
  | zero =>
    intro k o B hs h1' hB hk hR
    obtain ⟨k, rfl⟩ : ∃ m, k = m + 1 := ⟨k - 1, by omega⟩
    rw [impl_NeverChosen.l0, if_neg (by omega)]
    exact hR k B (by omega) (by simpa using hB)
  | succ d ih =>
    intro k o B hs h1' hB hk hR
    obtain ⟨k, rfl⟩ : ∃ m, k = m + 1 := ⟨k - 1, by omega⟩
    have hr : (List.range' o (d + 1)).flatMap (h0 xs) = h0 xs o ++ (List.range' (o + 1) d).flatMap (h0 xs) := rfl
    rw [hr, ← List.append_assoc] at hR
    rw [impl_NeverChosen.l0, if_pos (by omega)]
    exact impl_nv1 xs hn o (by omega) (63 * d + 1 + F) (by omega) R 10 k 0 B hs (by omega) hB (by omega) fun k' B' hk' hB' => ih k' (o + 1) B' _ (by omega) hB' hk' hR
theorem impl_nv3 (xs : List S84) (hn : xs.length ≤ 1048576) (B : List Bool) (hs : List Int) (hB : okB xs B hs) :
    ∀ (d k n : Nat) (c : List Int), n + d = xs.length → c.length ≤ n → d + 5 < k → impl_NeverChosen.l3 k B c xs (xs.length : Int) (n : Int) = some (c ++ nvL xs hs n d) := by
  intro d
  induction d with
  | zero =>
    intro k n c h1 h2 h3
    obtain ⟨k, rfl⟩ : ∃ m, k = m + 1 := ⟨k - 1, by omega⟩
    rw [impl_NeverChosen.l3, if_neg (by omega)]
    simp [nvL]
  | succ d ih =>
    intro k n c h1 h2 h3
    obtain ⟨k, rfl⟩ : ∃ m, k = m + 3 := ⟨k - 3, by omega⟩
    rw [impl_NeverChosen.l3, if_pos (by omega), if_pos (by omega), if_pos (by omega), impl_rul, Option.bind_some, wr (by omega) (by omega), nvL_succ, hB.2 n (by omega)]
    have hlen : (n : Int) < (B.length : Int) := by rw [hB.1]; omega
    rw [if_pos hlen]
    change (if rulX (rd_T84 xs (n : Int)) = true then _ else _) = _
    have e : nvP xs hs n = (rulX (rd_T84 xs (n : Int)) && !decide ((n : Int) ∈ hs)) := rfl
    rw [e]
    cases rulX (rd_T84 xs (n : Int))
    · simp only [Bool.false_and, Bool.false_eq_true, if_false, List.nil_append]
      exact ih (k + 2) (n + 1) c (by omega) (by omega) (by omega)
    · by_cases h : (n : Int) ∈ hs
      · simp only [h, decide_true, Bool.not_true, Bool.and_false, Bool.false_eq_true, if_true, if_false, List.nil_append]
        exact ih (k + 2) (n + 1) c (by omega) (by omega) (by omega)
      · simp only [h, decide_false, Bool.not_false, Bool.and_true, Bool.false_eq_true, if_true, if_false]
        rw [if_pos (by omega), ← List.append_assoc]
        exact ih (k + 2) (n + 1) (c ++ [(n : Int)]) (by omega) (by simp; omega) (by omega)
def TS : List (Nat × Nat × Nat) := (List.range' 0 360).map fun n => (1 + n / 10 % 9, n % 10, 1 + n / 90)
def TI : List (Nat × Nat × Nat) := (List.range' 1 9).flatMap fun o => (List.range' 0 10).flatMap fun s => (List.range' 1 4).map fun t => (o, s, t)
theorem TS_TI : TS.all (fun p => TI.contains p) = true ∧ TI.all (fun p => TS.contains p) = true := by decide +kernel
theorem T_iff (p : Nat × Nat × Nat) : p ∈ TS ↔ p ∈ TI := by
  obtain ⟨a, b⟩ := TS_TI
  rw [List.all_eq_true] at a b
  exact ⟨fun h => by simpa using a p h, fun h => by simpa using b p h⟩
theorem hit_iff (xs : List S84) (x : Int) : x ∈ (List.range' 0 360).map (hit xs) ↔ x ∈ (List.range' 1 9).flatMap (h0 xs) := by
  have e1 : (List.range' 0 360).map (hit xs) = TS.map fun p => h2 xs p.1 p.2.1 p.2.2 := by
    unfold TS; rw [List.map_map]; rfl
  have e2 : (List.range' 1 9).flatMap (h0 xs) = TI.map fun p => h2 xs p.1 p.2.1 p.2.2 := by
    unfold TI h0 h1
    simp only [List.map_flatMap, List.map_map]
    rfl
  rw [e1, e2, List.mem_map, List.mem_map]
  exact ⟨fun ⟨p, h, e⟩ => ⟨p, (T_iff p).1 h, e⟩, fun ⟨p, h, e⟩ => ⟨p, (T_iff p).2 h, e⟩⟩
theorem impl_Never_eq (k : Nat) (xs : List S84) (hn : xs.length ≤ 1048576) (hk : xs.length + 1000 < k) : impl_NeverChosen.f k xs = some (nvM xs) := by
  unfold impl_NeverChosen.f
  rw [if_pos (by omega), Int.toNat_natCast, if_pos (by omega)]
  refine impl_nv0 xs hn (xs.length + 10) (by omega) _ 9 k 1 (List.replicate xs.length false) [] (by omega) ⟨by simp, fun i hi => ?_⟩ (by omega) fun k' B' hk' hB' => ?_
  · rw [rdB _ i (by simpa using hi)]; simp
  · have := impl_nv3 xs hn B' _ hB' xs.length k' 0 [] (by omega) (by simp) (by omega)
    rw [show ((0 : Nat) : Int) = 0 from rfl] at this
    rw [this, List.nil_append]
    unfold nvM
    rw [List.nil_append]
    congr 1
    exact nvL_congr xs _ _ (fun i => (hit_iff xs i).symm) 0 xs.length


theorem impl_AppliesTo_eq (k : Nat) (xs : List S84) (qo qs qt : Int) (hn : xs.length ≤ 1048576) (hk : xs.length + 2 < k) : impl_AppliesTo.f k xs qo qs qt = some (aFrom qo qs qt xs 0) := by
  have L := loop_run 2 (fun k (s : List Int) i => impl_AppliesTo.l0 k s xs (xs.length : Int) i qo qs qt) xs.length (fun s i => s ++ aFrom qo qs qt (xs.drop i) i) (fun s i => s.length ≤ i) (by omega)
    (fun k s i hm hi hI ih => by
      have hd := drop_at xs i hi
      have hr := rdRule_i xs i hi
      generalize xs[i] = r at hd hr
      simp only [impl_AppliesTo.l0]
      obtain ⟨k, rfl⟩ : ∃ z, k = z + 2 := ⟨k - 2, by omega⟩
      rw [if_pos (by omega), if_pos (by omega), if_pos (by omega), hr, hd]
      simp only [aFrom, impl_appl k, Option.bind_some]
      have ih1 := ih (s ++ [(i : Int)]) (by simp; omega)
      have ih2 := ih s (by omega)
      try dsimp only at ih1 ih2
      unfold appS
      cases appl r.f0 r.f1 r.f2.f0 r.f2.f1 r.f3 r.f4 r.f5.f0 r.f5.f1 qo qs qt
      · simp only [Bool.false_eq_true, if_false, List.nil_append]; exact ih2
      · rw [if_pos rfl, if_pos (by omega), ih1, if_pos rfl, List.append_assoc])
    (fun k s hm hI => by
      simp only [impl_AppliesTo.l0]
      rw [if_neg nlt, List.drop_of_length_le (Nat.le_refl _)]
      simp [aFrom]) k hk [] (by simp)
  try dsimp only at L
  unfold impl_AppliesTo.f
  rw [L]
  simp

def clS (xs : List S84) (i j : Int) : Bool := decide ((rd_T84 xs i).f0 ≠ (rd_T84 xs j).f0) && decide ((rd_T84 xs i).f4 ≠ (rd_T84 xs j).f4)
theorem clS_symm (xs : List S84) (i j : Int) : clS xs i j = clS xs j i := by
  unfold clS; congr 1 <;> exact decide_eq_decide.mpr ⟨fun h e => h e.symm, fun h e => h e.symm⟩
theorem clS_self (xs : List S84) (i : Int) : clS xs i i = false := by simp [clS]
def clashM (xs : List S84) (L : List Int) : Bool := L.any fun i => L.any fun j => clS xs i j
theorem clash_half (xs : List S84) (L : List Int) : ((List.range L.length).any fun a => (List.range a).any fun b => clS xs (rd L a) (rd L b)) = clashM xs L := by
  rw [Bool.eq_iff_iff]
  unfold clashM
  simp only [List.any_eq_true, List.mem_range]
  constructor
  · rintro ⟨a, ha, b, hb, h⟩
    refine ⟨rd L a, ?_, rd L b, ?_, h⟩
    · have : rd L (a : Int) = L[a] := rd_at _ L a ha
      rw [this]; exact List.getElem_mem _
    · have : rd L (b : Int) = L[b] := rd_at _ L b (by omega)
      rw [this]; exact List.getElem_mem _
  · rintro ⟨i, hi, j, hj, h⟩
    obtain ⟨a, ha, rfl⟩ := List.mem_iff_getElem.1 hi
    obtain ⟨b, hb, rfl⟩ := List.mem_iff_getElem.1 hj
    have ea : rd L (a : Int) = L[a] := rd_at _ L a ha
    have eb : rd L (b : Int) = L[b] := rd_at _ L b hb
    rcases Nat.lt_trichotomy a b with hab | hab | hab
    · exact ⟨b, hb, a, hab, by rw [ea, eb, clS_symm]; exact h⟩
    · subst hab; rw [clS_self] at h; exact absurd h (by simp)
    · exact ⟨a, ha, b, hab, by rw [ea, eb]; exact h⟩
theorem range_any_succ (n : Nat) (f : Nat → Bool) : (List.range (n + 1)).any f = ((List.range n).any f || f n) := by
  rw [List.range_succ, List.any_append]; simp

theorem impl_Clash_in (xs : List S84) (L : List Int) (hL : ∀ x ∈ L, 0 ≤ x ∧ x < xs.length) (hn : L.length ≤ 1048576) (v : Int) (hv : 0 ≤ v ∧ v < xs.length) (a : Int) (R : Bool) (B : Nat)
    (H : ∀ k, B ≤ k → impl_ClashOf.l0 k xs L L (L.length : Int) (wrap64 (a + 1)) = some R) :
    ∀ (d k b : Nat), b + d = L.length → d + B < k → impl_ClashOf.l1 k xs L v L (L.length : Int) a L (L.length : Int) b = some ((L.drop b).any (fun j => clS xs v j) || R) := by
  intro d
  induction d with
  | zero =>
    intro k b hb hk
    obtain ⟨k, rfl⟩ : ∃ m, k = m + 1 := ⟨k - 1, by omega⟩
    simp only [impl_ClashOf.l1]
    rw [if_neg (by omega), H k (by omega), List.drop_of_length_le (by omega)]
    simp
  | succ d ih =>
    intro k b hb hk
    obtain ⟨k, rfl⟩ : ∃ m, k = m + 1 := ⟨k - 1, by omega⟩
    have eb : rd L (b : Int) = L[b]'(by omega) := rd_at _ L b (by omega)
    have hb2 := hL (L[b]'(by omega)) (List.getElem_mem _)
    have hd := drop_at L b (by omega)
    rw [← eb] at hb2 hd
    have e := ih k (b + 1) (by omega) (by omega)
    simp only [impl_ClashOf.l1]
    rw [if_pos (by omega), if_pos (by omega), if_pos (by omega), if_pos hv.1, if_pos hv.2, if_pos hb2.1, if_pos hb2.2]
    rw [wr (by omega) (by omega), show ((b : Int) + 1) = ((b + 1 : Nat) : Int) by omega, e, hd, List.any_cons]
    unfold clS
    by_cases h1 : (rd_T84 xs v).f0 = (rd_T84 xs (rd L b)).f0 <;> by_cases h2 : (rd_T84 xs v).f4 = (rd_T84 xs (rd L b)).f4 <;> simp [h1, h2]
theorem impl_Clash_out (xs : List S84) (L : List Int) (hL : ∀ x ∈ L, 0 ≤ x ∧ x < xs.length) (hn : L.length ≤ 1048576) :
    ∀ (d k a : Nat), a + d = L.length → d * (L.length + 2) < k → impl_ClashOf.l0 k xs L L (L.length : Int) a = some ((L.drop a).any fun i => L.any fun j => clS xs i j) := by
  intro d
  induction d with
  | zero =>
    intro k a ha hk
    obtain ⟨k, rfl⟩ : ∃ m, k = m + 1 := ⟨k - 1, by omega⟩
    simp only [impl_ClashOf.l0]
    rw [if_neg (by omega), List.drop_of_length_le (by omega)]
    rfl
  | succ d ih =>
    intro k a ha hk
    obtain ⟨k, rfl⟩ : ∃ m, k = m + 1 := ⟨k - 1, by omega⟩
    have hm : (d + 1) * (L.length + 2) = d * (L.length + 2) + (L.length + 2) := Nat.succ_mul _ _
    have ea : rd L (a : Int) = L[a]'(by omega) := rd_at _ L a (by omega)
    have ha2 := hL (L[a]'(by omega)) (List.getElem_mem _)
    have hd := drop_at L a (by omega)
    rw [← ea] at ha2 hd
    simp only [impl_ClashOf.l0]
    rw [if_pos (by omega), if_pos (by omega), if_pos (by omega)]
    have := impl_Clash_in xs L hL hn (rd L a) ha2 a _ (d * (L.length + 2) + 1) (fun k' hk' => by rw [wr (by omega) (by omega), show ((a : Int) + 1) = ((a + 1 : Nat) : Int) by omega]; exact ih k' (a + 1) (by omega) (by omega)) L.length k 0 (by omega) (by omega)
    rw [show ((0 : Nat) : Int) = 0 from rfl] at this
    rw [this, hd, List.any_cons, List.drop_zero]
theorem impl_ClashOf_eq (k : Nat) (xs : List S84) (qo qs qt : Int) (hn : xs.length ≤ 1048576) (hk : (xs.length + 1) * (xs.length + 2) + 10 < k) : impl_ClashOf.f k xs qo qs qt = some (clashM xs (aFrom qo qs qt xs 0)) := by
  have hl := aFrom_len qo qs qt xs 0
  have h1 : xs.length ≤ (xs.length + 1) * (xs.length + 2) := by rw [Nat.add_mul, Nat.one_mul]; omega
  have h2 : (aFrom qo qs qt xs 0).length * ((aFrom qo qs qt xs 0).length + 2) ≤ (xs.length + 1) * (xs.length + 2) := Nat.mul_le_mul (by omega) (by omega)
  unfold impl_ClashOf.f
  rw [impl_AppliesTo_eq k xs qo qs qt hn (by omega)]
  simp only [Option.bind_some]
  have := impl_Clash_out xs (aFrom qo qs qt xs 0) (fun x hx => by have := aFrom_mem qo qs qt xs 0 x hx; omega) (by omega) (aFrom qo qs qt xs 0).length k 0 (by omega) (by omega)
  rw [show ((0 : Nat) : Int) = 0 from rfl] at this
  rw [this, List.drop_zero]
  rfl


def cl (xs : List S84) (o : Int) (s t : Nat) : Nat := (clashM xs (aFrom o (s : Int) (t : Int) xs 0)).toNat
theorem cl_le (xs : List S84) (o : Int) (s t : Nat) : cl xs o s t ≤ 1 := Bool.toNat_le _
def M1 (n : Nat) : Nat := (n + 1) * (n + 2) + 10

theorem impl_cc_in (xs : List S84) (o : Int) (hn : xs.length ≤ 1048576) (s : Nat) (hs : s < 10) (F : Nat) (R : Option Int) :
    ∀ (d k t c : Nat), t + d = 5 → c + d ≤ 1000 → d + F + M1 xs.length + 3 < k → (∀ k', F + M1 xs.length < k' → impl_ClashCount.l0 k' xs o ((c + ((List.range' t d).map (cl xs o s)).sum : Nat) : Int) ((s + 1 : Nat) : Int) = R) →
    impl_ClashCount.l1 k xs o (c : Int) (s : Int) (t : Int) (s : Int) = R := by
  intro d
  induction d with
  | zero =>
    intro k t c h1 h2 h3 hR
    obtain ⟨k, rfl⟩ : ∃ m, k = m + 1 := ⟨k - 1, by omega⟩
    simp only [impl_ClashCount.l1]
    rw [if_neg (by omega), wr (by omega) (by omega)]
    exact hR k (by omega)
  | succ d ih =>
    intro k t c h1 h2 h3 hR
    obtain ⟨k, rfl⟩ : ∃ m, k = m + 1 := ⟨k - 1, by omega⟩
    simp only [impl_ClashCount.l1]
    rw [if_pos (by omega), impl_ClashOf_eq k xs o _ _ hn (by unfold M1 at h3; omega), Option.bind_some, wr (i := (t : Int) + 1) (by omega) (by omega), wr (i := (c : Int) + 1) (by omega) (by omega)]
    have hs2 : ((List.range' t (d + 1)).map (cl xs o s)).sum = cl xs o s t + ((List.range' (t + 1) d).map (cl xs o s)).sum := by
      simp [List.range'_succ]
    rw [hs2] at hR
    have hc := cl_le xs o s t
    have A := ih k (t + 1) (c + cl xs o s t) (by omega) (by omega) (by omega) (fun k' hk' => by rw [Nat.add_assoc]; exact hR k' hk')
    rw [← A]
    unfold cl
    cases clashM xs (aFrom o (s : Int) (t : Int) xs 0) <;> rfl
theorem impl_cc (xs : List S84) (o : Int) (hn : xs.length ≤ 1048576) :
    ∀ (d k s c : Nat), s + d = 10 → c + 4 * d ≤ 900 → d * 10 + M1 xs.length + 3 < k → impl_ClashCount.l0 k xs o (c : Int) (s : Int) = some ((c + ((List.range' s d).map fun s => ((List.range' 1 4).map (cl xs o s)).sum).sum : Nat) : Int) := by
  intro d
  induction d with
  | zero =>
    intro k s c h1 h2 h3
    obtain ⟨k, rfl⟩ : ∃ m, k = m + 1 := ⟨k - 1, by omega⟩
    simp only [impl_ClashCount.l0]
    rw [if_neg (by omega)]
    rfl
  | succ d ih =>
    intro k s c h1 h2 h3
    obtain ⟨k, rfl⟩ : ∃ m, k = m + 1 := ⟨k - 1, by omega⟩
    simp only [impl_ClashCount.l0]
    rw [if_pos (by omega)]
    have hs2 : ((List.range' s (d + 1)).map fun s => ((List.range' 1 4).map (cl xs o s)).sum).sum = ((List.range' 1 4).map (cl xs o s)).sum + ((List.range' (s + 1) d).map fun s => ((List.range' 1 4).map (cl xs o s)).sum).sum := by
      rw [show List.range' s (d + 1) = s :: List.range' (s + 1) d from rfl, List.map_cons, List.sum_cons]
    have hb : ((List.range' 1 4).map (cl xs o s)).sum ≤ 4 := by
      have a := cl_le xs o s 1; have b := cl_le xs o s 2; have c := cl_le xs o s 3; have d := cl_le xs o s 4
      simp [List.range']; omega
    rw [hs2, ← Nat.add_assoc]
    exact impl_cc_in xs o hn s (by omega) (d * 10 + 3) _ 4 k 1 c (by omega) (by omega) (by omega) fun k' hk' => ih k' (s + 1) _ (by omega) (by omega) (by omega)
set_option maxHeartbeats 4000000 in
theorem cc_re (g : Nat → Nat → Nat) : ((List.range' 0 40).map fun n => g (n % 10) (1 + n / 10)).sum = ((List.range' 0 10).map fun s => ((List.range' 1 4).map (g s)).sum).sum := by
  simp only [List.range', List.map_cons, List.map_nil, List.sum_cons, List.sum_nil, Nat.reduceAdd, Nat.reduceMod, Nat.reduceDiv]
  omega

theorem befo_iff (ae ap aa ao ab be bp ba bo bb : Int) : befo ae ap aa ao ab be bp ba bo bb = true ↔ (bp < ap ∨ (ap = bp ∧ (aa < ba ∨ (aa = ba ∧ (ae < be ∨ (ae = be ∧ (ao < bo ∨ (ao = bo ∧ ab < bb)))))))) := by
  unfold befo
  by_cases h1 : ap = bp
  · rw [if_pos h1]
    by_cases h2 : aa = ba
    · rw [if_pos h2]
      by_cases h3 : ae = be
      · rw [if_pos h3]
        by_cases h4 : ao = bo
        · rw [if_pos h4, decide_eq_true_eq]; omega
        · rw [if_neg h4, decide_eq_true_eq]; omega
      · rw [if_neg h3, decide_eq_true_eq]; omega
    · rw [if_neg h2, decide_eq_true_eq]; omega
  · rw [if_neg h1, decide_eq_true_eq]; omega
theorem befo_irr (ae ap aa ao ab : Int) : befo ae ap aa ao ab ae ap aa ao ab = false := by
  rw [Bool.eq_false_iff, Ne, befo_iff]; omega
theorem befo_asym {ae ap aa ao ab be bp ba bo bb : Int} (h : befo ae ap aa ao ab be bp ba bo bb = true) : befo be bp ba bo bb ae ap aa ao ab = false := by
  rw [befo_iff] at h
  rw [Bool.eq_false_iff, Ne, befo_iff]; omega
theorem befo_tri {ae ap aa ao ab be bp ba bo bb : Int} (h : befo ae ap aa ao ab be bp ba bo bb = false) (h' : befo be bp ba bo bb ae ap aa ao ab = false) : ap = bp ∧ aa = ba ∧ ae = be ∧ ao = bo ∧ ab = bb := by
  rw [Bool.eq_false_iff, Ne, befo_iff] at h h'; omega
theorem befo_trans {ae ap aa ao ab be bp ba bo bb ce cp ca co cb : Int} (h : befo ae ap aa ao ab be bp ba bo bb = true) (h' : befo be bp ba bo bb ce cp ca co cb = true) : befo ae ap aa ao ab ce cp ca co cb = true := by
  rw [befo_iff] at h h' ⊢; omega

theorem befS_irr (a : S84) : befS a a = false := befo_irr _ _ _ _ _
theorem befS_trans {a b c : S84} (h : befS a b = true) (h' : befS b c = true) : befS a c = true := befo_trans h h'
theorem dFrom_best (xs : List S84) (qo qs qt : Int) : ∀ (d i : Nat) (b : Int), i + d = xs.length → -1 ≤ b → b < i → (∀ j (hj : j < xs.length), j < i → appS xs[j] qo qs qt = true → 0 ≤ b ∧ befS xs[j] (rd_T84 xs b) = false) →
    ∀ j (hj : j < xs.length), appS xs[j] qo qs qt = true → 0 ≤ dFrom xs qo qs qt (xs.drop i) i b ∧ befS xs[j] (rd_T84 xs (dFrom xs qo qs qt (xs.drop i) i b)) = false := by
  intro d
  induction d with
  | zero =>
    intro i b hi h0 h1 hb j hj ha
    rw [List.drop_of_length_le (by omega)]
    exact hb j hj (by omega) ha
  | succ d ih =>
    intro i b hi h0 h1 hb
    have hil : i < xs.length := by omega
    rw [drop_at xs i hil]
    simp only [dFrom]
    have hri := rdRule_i xs i hil
    refine ih (i + 1) _ (by omega) (by split <;> omega) (by split <;> omega) ?_
    intro j hj hji ha
    by_cases hc : (appS xs[i] qo qs qt && (decide (b < 0) || befS xs[i] (rd_T84 xs b))) = true
    · rw [if_pos hc, hri]
      refine ⟨by omega, ?_⟩
      by_cases e : j = i
      · subst e; exact befS_irr _
      · obtain ⟨p1, p2⟩ := hb j hj (by omega) ha
        rw [Bool.and_eq_true, Bool.or_eq_true, decide_eq_true_eq] at hc
        have hbe := hc.2.resolve_left (by omega)
        rw [Bool.eq_false_iff]
        intro hx
        rw [befS_trans hx hbe] at p2
        exact absurd p2 (by decide)
    · rw [if_neg hc]
      by_cases e : j = i
      · subst e
        rw [ha, Bool.true_and, Bool.or_eq_true, decide_eq_true_eq] at hc
        exact ⟨by omega, by rw [Bool.eq_false_iff]; exact fun hx => hc (Or.inr hx)⟩
      · exact hb j hj (by omega) ha
theorem decM_best (xs : List S84) (qo qs qt : Int) (j : Nat) (hj : j < xs.length) (ha : appS xs[j] qo qs qt = true) : 0 ≤ decM xs qo qs qt ∧ befS xs[j] (rd_T84 xs (decM xs qo qs qt)) = false := by
  have := dFrom_best xs qo qs qt xs.length 0 (-1) (by omega) (by omega) (by omega) (fun j hj h => absurd h (by omega)) j hj ha
  rw [List.drop_zero] at this
  exact this
theorem dFrom_ap (xs : List S84) (qo qs qt : Int) : ∀ (d i : Nat) (b : Int), i + d = xs.length → (0 ≤ b → appS (rd_T84 xs b) qo qs qt = true) → 0 ≤ dFrom xs qo qs qt (xs.drop i) i b →
    appS (rd_T84 xs (dFrom xs qo qs qt (xs.drop i) i b)) qo qs qt = true := by
  intro d
  induction d with
  | zero =>
    intro i b hi hb h0
    rw [List.drop_of_length_le (by omega)] at h0 ⊢
    exact hb h0
  | succ d ih =>
    intro i b hi hb h0
    have hil : i < xs.length := by omega
    rw [drop_at xs i hil] at h0 ⊢
    simp only [dFrom] at h0 ⊢
    refine ih (i + 1) _ (by omega) ?_ h0
    intro hp
    by_cases hc : (appS xs[i] qo qs qt && (decide (b < 0) || befS xs[i] (rd_T84 xs b))) = true
    · rw [if_pos hc, rdRule_i xs i hil]
      rw [Bool.and_eq_true] at hc
      exact hc.1
    · rw [if_neg hc] at hp ⊢
      exact hb hp
theorem decM_ap (xs : List S84) (qo qs qt : Int) (h : 0 ≤ decM xs qo qs qt) : appS (rd_T84 xs (decM xs qo qs qt)) qo qs qt = true := by
  have := dFrom_ap xs qo qs qt xs.length 0 (-1) (by omega) (fun h => absurd h (by decide)) (by rw [List.drop_zero]; exact h)
  rw [List.drop_zero] at this
  exact this

theorem not_best (xs : List S84) (qo qs qt x : Int) (h : shad xs x = true) : x ≠ decM xs qo qs qt := by
  intro e
  unfold shad at h
  by_cases hx : 0 ≤ x ∧ x < xs.length
  · rw [dif_pos hx] at h
    unfold shadA at h
    rw [Bool.and_eq_true, List.any_eq_true] at h
    obtain ⟨hr, r, hrm, hs⟩ := h
    obtain ⟨n, hn, hrn⟩ := List.getElem_of_mem hrm
    have hap := decM_ap xs qo qs qt (by omega)
    have hrd : rd_T84 xs (decM xs qo qs qt) = xs[x.toNat]'(by omega) := by
      rw [← e]
      have := rdRule_i xs x.toNat (by omega)
      rw [show ((x.toNat : Nat) : Int) = x by omega] at this
      exact this
    rw [hrd] at hap
    generalize xs[x.toNat]'(by omega) = a at hr hs hap hrd
    have hra : appS xs[n] qo qs qt = true := by
      rw [hrn]
      unfold shadP narr at hs
      unfold appS appl mtch at hap ⊢
      simp only [Bool.and_eq_true, Bool.or_eq_true, decide_eq_true_eq] at hs hap ⊢
      obtain ⟨q1, _, ⟨_, q2, q3, q4⟩, q5⟩ := hs
      obtain ⟨_, p1, ⟨_, p2, p3, p4⟩, p5⟩ := hap
      exact ⟨q1, p1, ⟨q2, p2, by omega, by omega⟩, by omega⟩
    have hb := (decM_best xs qo qs qt n hn hra).2
    rw [hrd, hrn] at hb
    unfold shadP at hs
    simp only [Bool.and_eq_true] at hs
    have : befS r a = true := hs.2.1
    rw [this] at hb
    exact absurd hb (by decide)
  · rw [dif_neg hx] at h
    exact absurd h (by decide)
theorem mem_shL (xs : List S84) (x : Int) : x ∈ shL xs 0 xs.length ↔ shad xs x = true := by
  unfold shL
  rw [List.mem_map]
  constructor
  · rintro ⟨n, hm, rfl⟩
    exact (List.mem_filter.1 hm).2
  · intro h
    have hx : 0 ≤ x ∧ x < xs.length := by
      by_cases hx : 0 ≤ x ∧ x < xs.length
      · exact hx
      · unfold shad at h; rw [dif_neg hx] at h; exact absurd h (by decide)
    refine ⟨x.toNat, List.mem_filter.2 ⟨by rw [List.mem_range'_1]; omega, ?_⟩, by omega⟩
    rw [show ((x.toNat : Nat) : Int) = x by omega]
    exact h
theorem all_never (xs : List S84) : (shL xs 0 xs.length).all (fun x => decide (x ∈ nvM xs)) = true := by
  rw [List.all_eq_true]
  intro x hx
  apply decide_eq_true
  have hs := (mem_shL xs x).1 hx
  have hr : 0 ≤ x ∧ x < xs.length := by
    by_cases hx : 0 ≤ x ∧ x < xs.length
    · exact hx
    · unfold shad at hs; rw [dif_neg hx] at hs; exact absurd hs (by decide)
  unfold nvM nvL
  rw [List.mem_map]
  refine ⟨x.toNat, List.mem_filter.2 ⟨by rw [List.mem_range'_1]; omega, ?_⟩, by omega⟩
  unfold nvP
  rw [Bool.and_eq_true]
  constructor
  · have e := rdRule_i xs x.toNat (by omega)
    rw [e]
    unfold shad at hs
    rw [dif_pos hr] at hs
    unfold shadA at hs
    rw [Bool.and_eq_true] at hs
    exact hs.1
  · rw [show ((x.toNat : Nat) : Int) = x by omega, decide_eq_false]
    · rfl
    · intro hm
      rw [List.mem_map] at hm
      obtain ⟨n, _, hn⟩ := hm
      exact not_best xs _ _ _ x hs hn.symm
theorem aFrom_ex (qo qs qt : Int) : ∀ (rs : List S84) (i : Nat) (x : Int), x ∈ aFrom qo qs qt rs i → ∃ r ∈ rs, appS r qo qs qt = true
  | [], i, x, h => by simp [aFrom] at h
  | r :: rs, i, x, h => by
    simp only [aFrom, List.mem_append] at h
    rcases h with h | h
    · split at h
      · next hp => exact ⟨r, List.mem_cons_self, hp⟩
      · simp at h
    · obtain ⟨y, hy, hp⟩ := aFrom_ex qo qs qt rs (i + 1) x h
      exact ⟨y, List.mem_cons_of_mem _ hy, hp⟩
theorem clash_two (xs : List S84) (L : List Int) (h : clashM xs L = true) : 2 ≤ L.length := by
  unfold clashM at h
  rw [List.any_eq_true] at h
  obtain ⟨i, hi, h⟩ := h
  rw [List.any_eq_true] at h
  obtain ⟨j, hj, h⟩ := h
  match L, hi, hj with
  | [], hi, _ => simp at hi
  | [x], hi, hj =>
    rw [List.mem_singleton] at hi hj
    subst hi; subst hj
    rw [clS_self] at h
    exact absurd h (by decide)
  | _ :: _ :: _, _, _ => simp
theorem sum_le (f : Nat → Nat) (c : Nat) : ∀ l : List Nat, (∀ x ∈ l, f x ≤ c) → (l.map f).sum ≤ c * l.length
  | [], _ => by simp
  | x :: l, h => by
    have h1 := h x List.mem_cons_self
    have h2 := sum_le f c l (fun y hy => h y (List.mem_cons_of_mem _ hy))
    rw [List.map_cons, List.sum_cons, List.length_cons, Nat.mul_succ]
    omega
theorem sum_ge (f : Nat → Nat) (x : Nat) : ∀ l : List Nat, x ∈ l → f x ≤ (l.map f).sum
  | [], h => by simp at h
  | y :: l, h => by
    rw [List.map_cons, List.sum_cons]
    rcases List.mem_cons.1 h with rfl | h
    · omega
    · have := sum_ge f x l h; omega
def ccM (xs : List S84) (o : Int) : Nat := if inR o 1 9 = true then ((List.range' 0 10).map fun s => ((List.range' 1 4).map (cl xs o s)).sum).sum else 0
theorem ccM_le (xs : List S84) (o : Int) : ccM xs o ≤ 40 := by
  unfold ccM
  split
  · have := sum_le (fun s => ((List.range' 1 4).map (cl xs o s)).sum) 4 (List.range' 0 10) (fun s _ => by
      have := sum_le (cl xs o s) 1 (List.range' 1 4) (fun t _ => cl_le xs o s t)
      simpa using this)
    simpa using this
  · omega
theorem ccM_pos (xs : List S84) (qo qs qt : Int) (h : clashM xs (aFrom qo qs qt xs 0) = true) : 1 ≤ ccM xs qo := by
  have h2 := clash_two xs _ h
  obtain ⟨x, hx⟩ : ∃ x, x ∈ aFrom qo qs qt xs 0 := by
    cases hA : aFrom qo qs qt xs 0 with
    | nil => rw [hA] at h2; simp at h2
    | cons y ys => exact ⟨y, List.mem_cons_self⟩
  obtain ⟨r, _, hr⟩ := aFrom_ex qo qs qt xs 0 x hx
  unfold appS appl isReq isSit inR at hr
  simp only [Bool.and_eq_true, decide_eq_true_eq] at hr
  obtain ⟨_, ⟨⟨⟨o1, o2⟩, s1, s2⟩, t1, t2⟩, _⟩ := hr
  unfold ccM
  rw [if_pos (by unfold inR; simp; omega)]
  have a1 := sum_ge (fun s => ((List.range' 1 4).map (cl xs qo s)).sum) qs.toNat (List.range' 0 10) (by rw [List.mem_range'_1]; omega)
  have a2 := sum_ge (cl xs qo qs.toNat) qt.toNat (List.range' 1 4) (by rw [List.mem_range'_1]; omega)
  have a3 : cl xs qo qs.toNat qt.toNat = 1 := by
    unfold cl
    rw [show ((qs.toNat : Nat) : Int) = qs by omega, show ((qt.toNat : Nat) : Int) = qt by omega, h]
    rfl
  omega
theorem impl_ccf (k : Nat) (xs : List S84) (o : Int) (hn : xs.length ≤ 1048576) (hk : M1 xs.length + 200 < k) : impl_ClashCount.f k xs o = some (ccM xs o : Int) := by
  unfold impl_ClashCount.f ccM
  rw [impl_in, Option.bind_some]
  by_cases ho : inR o 1 9 = true
  · rw [if_pos ho, if_pos ho]
    have := impl_cc xs o hn 10 k 0 0 (by omega) (by omega) (by omega)
    rw [Nat.zero_add] at this
    exact this
  · rw [if_neg ho, if_neg ho]; rfl
theorem M1_le (n : Nat) (h : n ≤ 20) : M1 n ≤ 472 := by
  unfold M1
  have : (n + 1) * (n + 2) ≤ 21 * 22 := Nat.mul_le_mul (by omega) (by omega)
  omega
theorem shadowed_l0 (xs : List S84) (hx : xs.length ≤ 20) (qo qs qt : Int) : ∀ (d k i : Nat), i + d = xs.length → d + 1000 < k → laws_FnShadowed.l0 k xs (shL xs 0 xs.length) (i : Int) qo qs qt = some true := by
  have hM := M1_le xs.length hx
  have hM2 : (xs.length + 1) * (xs.length + 2) + 10 ≤ 472 := hM
  have hlen := shL_len xs 0 xs.length
  intro d
  induction d with
  | zero =>
    intro k i hi hk
    obtain ⟨k, rfl⟩ : ∃ m, k = m + 1 := ⟨k - 1, by omega⟩
    simp only [laws_FnShadowed.l0]
    have hcc : some (decide ((ccM xs qo : Int) ≤ 40)) = some true := by rw [decide_eq_true (by have := ccM_le xs qo; omega)]
    rw [if_neg (by omega), impl_AppliesTo_eq k xs _ _ _ (by omega) (by omega), Option.bind_some, impl_ClashOf_eq k xs _ _ _ (by omega) (by omega), Option.bind_some]
    rw [impl_ccf k xs qo (by omega) (by omega), Option.bind_some, Option.bind_some]
    cases h : clashM xs (aFrom qo qs qt xs 0)
    · rw [if_neg (by decide)]; exact hcc
    · have h2 := clash_two xs _ h
      have h3 := ccM_pos xs qo qs qt h
      rw [if_pos rfl, if_neg (by omega), if_neg (by omega)]
      exact hcc
  | succ d ih =>
    intro k i hi hk
    obtain ⟨k, rfl⟩ : ∃ m, k = m + 1 := ⟨k - 1, by omega⟩
    simp only [laws_FnShadowed.l0]
    have e : decide ((i : Int) ∈ shL xs 0 xs.length) = shad xs (i : Int) := by
      cases h : shad xs (i : Int)
      · apply decide_eq_false; rw [mem_shL, h]; decide
      · apply decide_eq_true; rw [mem_shL, h]
    rw [if_pos (by omega), contains_eq k _ _ (by omega) (by omega), Option.bind_some, impl_shad k xs _ (by omega) (by omega), Option.bind_some, e, if_neg (by simp), wr (by omega) (by omega), show (i : Int) + 1 = ((i + 1 : Nat) : Int) by omega]
    exact ih k (i + 1) (by omega) (by omega)
theorem FnShadowed : laws_FnShadowed.Pure := by
  intro l0 _ _ _
  obtain ⟨K, hK⟩ : ∃ K, K = l0.length + 5000 := ⟨_, rfl⟩
  refine ⟨K + 1, ?_⟩
  unfold laws_FnShadowed.f
  simp only [laws_big.f, Option.bind_some]
  by_cases hb : (l0.length : Int) > 1048576
  · rw [if_pos (decide_eq_true hb)]
  · rw [if_neg (by rw [decide_eq_false hb]; decide)]
    obtain ⟨⟨xs, qo, qs, qt⟩, e1, hx⟩ := drawDecide_ok (K + 1) l0 (by omega) (by omega)
    rw [e1, Option.bind_some]
    dsimp only at hx ⊢
    have hlen := shL_len xs 0 xs.length
    have hnv : (nvM xs).length ≤ xs.length := by unfold nvM; exact nvL_len _ _ _ _
    rw [impl_Shadowed_eq (K + 1) xs (by omega) (by omega), Option.bind_some, impl_DecideRule_eq (K + 1) xs _ _ _ (by omega) (by omega), Option.bind_some, spec_DecideRule_eq (K + 1) xs _ _ _ (by omega) (by omega), Option.bind_some, if_pos rfl, Option.bind_some,
      contains_eq (K + 1) _ _ (by omega) (by omega), Option.bind_some, decide_eq_false (fun h => not_best xs qo qs qt _ ((mem_shL xs _).1 h) rfl), if_neg (by decide), impl_Never_eq (K + 1) xs (by omega) (by omega), Option.bind_some, within_eq (K + 1) _ _ (by omega) (by omega) (by omega), Option.bind_some, all_never]
    simp only [laws_FnShadowed.j0, Bool.not_true, Bool.false_eq_true, if_false]
    exact shadowed_l0 xs hx qo qs qt xs.length K 0 (by omega) (by omega)

end Go.Proofs.Ytilneejgliglhaa.Pure
