/- The printed function of the law FnFollowed answers true, for all arguments, under no condition but that each whole number is one of its kind and that each slice has a length that fits. -/
import Derived.Test.YtacgichgadoddaaQKx40
namespace Go.Proofs.Ytacgichgadoddaa.Pure
open Go.RowKit Go.Proofs.Ytacgichgadoddaa.QK Go.Proofs.YtacgichgadoddaaW.PrintWords Go.Proofs.YtacgichgadoddaaW.PrintLast
set_option linter.unusedVariables false
set_option linter.unusedSimpArgs false
theorem wr {i : Int} (h0 : -9223372036854775808 ≤ i) (h1 : i ≤ 9223372036854775807) : wrap64 i = i := by unfold wrap64; omega
theorem beq_dec (a b : Int) : (a == b) = decide (a = b) := by by_cases h : a = b <;> simp [h]
theorem and_if (p : Prop) [Decidable p] (c : Bool) : (if p then some c else some false) = some (decide p && c) := by
  by_cases h : p <;> simp [h]
theorem or_if (p : Prop) [Decidable p] (c : Bool) : (if p then some true else some c) = some (decide p || c) := by
  by_cases h : p <;> simp [h]
def inR (a b c : Int) : Bool := decide (b ≤ a) && decide (a ≤ c)
def isPat (o s : Int) : Bool := inR o 0 9 && inR s (-1) 9
def isSit (o s : Int) : Bool := inR o 1 9 && inR s 0 9
def mtch (po ps o s : Int) : Bool := isPat po ps && (isSit o s && ((decide (po = 0) || decide (po = o)) && (decide (ps = -1) || decide (ps = s))))
def narr (po ps qo qs : Int) : Bool := isPat po ps && (isPat qo qs && ((decide (qo = 0) || decide (po = qo)) && (decide (qs = -1) || decide (ps = qs))))
def isGra (e po ps k f u : Int) : Bool := inR e 1 5 && (isPat po ps && (inR k 1 4 && (decide (0 ≤ f) && (decide (f ≤ u) && decide (u ≤ 10000)))))
def isLim (e po ps k : Int) : Bool := inR e 0 5 && (isPat po ps && inR k 0 4)
def covr (e po ps k f u : Int) (cl : Bool) (ext o s kind tick : Int) (ck : Bool) : Bool :=
  isGra e po ps k f u && (decide (e = ext) && (decide (k = kind) && (mtch po ps o s && (inR tick f u && (ck || !cl)))))
def isRul (e p po ps s a o b : Int) : Bool :=
  inR e 1 5 && (inR p 1 9 && (isPat po ps && (inR s 0 4 && ((decide (a = 1) || decide (a = 2)) && (decide (o = 0) && decide (b = 0)) || decide (a = 3) && isSit o b))))
def isReq (o s t : Int) : Bool := isSit o s && inR t 1 4
def appl (e p po ps s a o b qo qs qt : Int) : Bool := isRul e p po ps s a o b && (isReq qo qs qt && (mtch po ps qo qs && (decide (s = 0) || decide (s = qt))))
def isLen (e po ps k f u : Int) (cl : Bool) : Bool := isGra e po ps k f u && (decide (po ≠ 0) && (decide (ps ≠ -1) && ((decide (k = 1) || decide (k = 2)) && (decide (u = f + 5) && !cl))))
def isLab (x : Int) : Bool := inR x 0 1022 && decide (Int.tmod x 2 = 0)
def befo (ae ap aa ao ab be bp ba bo bb : Int) : Bool :=
  if ap = bp then (if aa = ba then (if ae = be then (if ao = bo then decide (ab < bb) else decide (ao < bo)) else decide (ae < be)) else decide (aa < ba)) else decide (bp < ap)
def within (e po ps k f u : Int) (cl : Bool) (e' po' ps' k' f' u' : Int) (cl' : Bool) : Bool :=
  isGra e po ps k f u && (isGra e' po' ps' k' f' u' && (decide (e = e') && (decide (k = k') && (narr po ps po' ps' && (decide (f' ≤ f) && (decide (u ≤ u') && (cl || !cl')))))))
theorem take_set1 {α : Type} (s : List α) (i : Nat) (v : α) (h : i < s.length) : (s.set i v).take (i + 1) = s.take i ++ [v] := by
  rw [List.take_succ_eq_append_getElem (by simpa using h), List.take_set, List.set_eq_of_length_le (by simp; omega)]
  simp
theorem loop_up {σ ρ : Type} (g : Nat → σ → Int → Option ρ) (n : Nat) (out : σ → Nat → ρ) (I : σ → Nat → Prop) (hn : n ≤ 9223372036854775806)
    (hstep : ∀ (k : Nat) (s : σ) (i : Nat), i < n → I s i → (∀ s', I s' (i + 1) → g k s' (wrap64 ((i : Int) + 1)) = some (out s' (i + 1))) → g (k + 1) s (i : Int) = some (out s i))
    (hend : ∀ (k : Nat) (s : σ), I s n → g (k + 1) s (n : Int) = some (out s n)) :
    ∀ (d k : Nat) (s : σ) (i : Nat), i + d = n → d < k → I s i → g k s (i : Int) = some (out s i) := by
  intro d
  induction d with
  | zero =>
    intro k s i hi hk hI
    obtain ⟨k, rfl⟩ : ∃ m, k = m + 1 := ⟨k - 1, by omega⟩
    obtain rfl : i = n := by omega
    exact hend k s hI
  | succ d ih =>
    intro k s i hi hk hI
    obtain ⟨k, rfl⟩ : ∃ m, k = m + 1 := ⟨k - 1, by omega⟩
    refine hstep k s i (by omega) hI fun s' hI' => ?_
    have := ih k s' (i + 1) (by omega) (by omega) hI'
    rw [wr (by omega) (by omega)]
    exact_mod_cast this
theorem loop_from {σ ρ : Type} {g : Nat → σ → Int → Option ρ} {n : Nat} {out : σ → Nat → ρ} {I : σ → Nat → Prop} (h : ∀ (d k : Nat) (s : σ) (i : Nat), i + d = n → d < k → I s i → g k s (i : Int) = some (out s i))
    (k : Nat) (hk : n < k) (s : σ) (hI : I s 0) : g k s 0 = some (out s 0) := by
  have := h n k s 0 (by omega) hk hI
  exact_mod_cast this
theorem drop_at {α : Type} (xs : List α) (i : Nat) (h : i < xs.length) : xs.drop i = xs[i] :: xs.drop (i + 1) := List.drop_eq_getElem_cons h

theorem nlt {n : Nat} : ¬ (n : Int) < (n : Int) := by omega
/-- where a list is copied element by element into a made one -/
theorem rd_at {α : Type} (z : α) (xs : List α) (i : Nat) (h : i < xs.length) : xs.getD (i : Int).toNat z = xs[i] := by simp [h]

theorem loop_upm {σ ρ : Type} (m : Nat) (g : Nat → σ → Int → Option ρ) (n : Nat) (out : σ → Nat → ρ) (I : σ → Nat → Prop) (hn : n ≤ 9223372036854775806)
    (hstep : ∀ (k : Nat) (s : σ) (i : Nat), m ≤ k → i < n → I s i → (∀ s', I s' (i + 1) → g k s' (wrap64 ((i : Int) + 1)) = some (out s' (i + 1))) → g (k + 1) s (i : Int) = some (out s i))
    (hend : ∀ (k : Nat) (s : σ), m ≤ k → I s n → g (k + 1) s (n : Int) = some (out s n)) :
    ∀ (d k : Nat) (s : σ) (i : Nat), i + d = n → d + m < k → I s i → g k s (i : Int) = some (out s i) := by
  intro d
  induction d with
  | zero =>
    intro k s i hi hk hI
    obtain ⟨k, rfl⟩ : ∃ m, k = m + 1 := ⟨k - 1, by omega⟩
    obtain rfl : i = n := by omega
    exact hend k s (by omega) hI
  | succ d ih =>
    intro k s i hi hk hI
    obtain ⟨k, rfl⟩ : ∃ m, k = m + 1 := ⟨k - 1, by omega⟩
    refine hstep k s i (by omega) (by omega) hI fun s' hI' => ?_
    have := ih k s' (i + 1) (by omega) (by omega) hI'
    rw [wr (by omega) (by omega)]
    exact_mod_cast this
theorem loop_fromm {σ ρ : Type} {m : Nat} {g : Nat → σ → Int → Option ρ} {n : Nat} {out : σ → Nat → ρ} {I : σ → Nat → Prop} (h : ∀ (d k : Nat) (s : σ) (i : Nat), i + d = n → d + m < k → I s i → g k s (i : Int) = some (out s i))
    (k : Nat) (hk : n + m < k) (s : σ) (hI : I s 0) : g k s 0 = some (out s 0) := by
  have := h n k s 0 (by omega) hk hI
  exact_mod_cast this
theorem loop_run {σ ρ : Type} (m : Nat) (g : Nat → σ → Int → Option ρ) (n : Nat) (out : σ → Nat → ρ) (I : σ → Nat → Prop) (hn : n ≤ 9223372036854775806)
    (hstep : ∀ (k : Nat) (s : σ) (i : Nat), m ≤ k → i < n → I s i → (∀ s', I s' (i + 1) → g k s' (wrap64 ((i : Int) + 1)) = some (out s' (i + 1))) → g (k + 1) s (i : Int) = some (out s i))
    (hend : ∀ (k : Nat) (s : σ), m ≤ k → I s n → g (k + 1) s (n : Int) = some (out s n)) (k : Nat) (hk : n + m < k) (s : σ) (hI : I s 0) : g k s 0 = some (out s 0) :=
  loop_fromm (loop_upm m g n out I hn hstep hend) k hk s hI
theorem if_and2 {α : Type} (a : Bool) (p : Prop) [Decidable p] (x y : α) : (if a = true then (if p then x else y) else y) = if (a && decide p) = true then x else y := by
  cases a <;> by_cases h : p <;> simp [h]

theorem if_nand {α : Type} (a b : Bool) (x y : α) : (if a = true then (if b = true then y else x) else x) = if (!(a && b)) = true then x else y := by
  cases a <;> cases b <;> simp
theorem rdPattern_i (xs : List S32) (i : Nat) (h : i < xs.length) : rd_T32 xs (i : Int) = xs[i] := rd_at _ xs i h
theorem rdSite_i (xs : List S33) (i : Nat) (h : i < xs.length) : rd_T33 xs (i : Int) = xs[i] := rd_at _ xs i h
theorem rdRule_i (xs : List S35) (i : Nat) (h : i < xs.length) : rd_T35 xs (i : Int) = xs[i] := rd_at _ xs i h

def appS (r : S35) (qo qs qt : Int) : Bool := appl r.f0 r.f1 r.f2.f0 r.f2.f1 r.f3 r.f4 r.f5.f0 r.f5.f1 qo qs qt
def befS (a b : S35) : Bool := befo a.f0 a.f1 a.f4 a.f5.f0 a.f5.f1 b.f0 b.f1 b.f4 b.f5.f0 b.f5.f1
def dFrom (xs : List S35) (qo qs qt : Int) : List S35 → Nat → Int → Int
  | [], _, b => b
  | r :: rs, i, b => dFrom xs qo qs qt rs (i + 1) (if (appS r qo qs qt && (decide (b < 0) || befS r (rd_T35 xs b))) = true then (i : Int) else b)
def decM (xs : List S35) (qo qs qt : Int) : Int := dFrom xs qo qs qt xs 0 (-1)
theorem dFrom_range (xs : List S35) (qo qs qt : Int) : ∀ (rs : List S35) (i : Nat) (b : Int), -1 ≤ b → b < i → -1 ≤ dFrom xs qo qs qt rs i b ∧ dFrom xs qo qs qt rs i b < i + rs.length
  | [], i, b, h0, h1 => by simp [dFrom]; omega
  | r :: rs, i, b, h0, h1 => by
    simp only [dFrom]
    have := dFrom_range xs qo qs qt rs (i + 1) (if (appS r qo qs qt && (decide (b < 0) || befS r (rd_T35 xs b))) = true then (i : Int) else b) (by split <;> omega) (by split <;> omega)
    simp only [List.length_cons]
    omega
theorem decM_range (xs : List S35) (qo qs qt : Int) : -1 ≤ decM xs qo qs qt ∧ decM xs qo qs qt < xs.length := by
  have := dFrom_range xs qo qs qt xs 0 (-1) (by omega) (by omega)
  simpa [decM] using this

def aFrom (qo qs qt : Int) : List S35 → Nat → List Int
  | [], _ => []
  | r :: rs, i => (if appS r qo qs qt = true then [(i : Int)] else []) ++ aFrom qo qs qt rs (i + 1)
theorem aFrom_mem (qo qs qt : Int) : ∀ (rs : List S35) (i : Nat) (x : Int), x ∈ aFrom qo qs qt rs i → (i : Int) ≤ x ∧ x < i + rs.length
  | [], i, x, h => by simp [aFrom] at h
  | r :: rs, i, x, h => by
    simp only [aFrom, List.mem_append] at h
    rcases h with h | h
    · split at h
      · simp at h; simp; omega
      · simp at h
    · have := aFrom_mem qo qs qt rs (i + 1) x h
      simp; omega
theorem aFrom_len (qo qs qt : Int) : ∀ (rs : List S35) (i : Nat), (aFrom qo qs qt rs i).length ≤ rs.length
  | [], i => by simp [aFrom]
  | r :: rs, i => by
    have := aFrom_len qo qs qt rs (i + 1)
    simp only [aFrom, List.length_append, List.length_cons]
    split <;> simp <;> omega
def sameSs (a b : Int) (r : S33) : Bool := (r.f0 == a && (r.f1 == b))

theorem dFrom_app (xs : List S35) (qo qs qt : Int) : ∀ (d i : Nat) (b : Int), i + d = xs.length → (0 ≤ b → appS (rd_T35 xs b) qo qs qt = true) → 0 ≤ dFrom xs qo qs qt (xs.drop i) i b →
    appS (rd_T35 xs (dFrom xs qo qs qt (xs.drop i) i b)) qo qs qt = true := by
  intro d
  induction d with
  | zero =>
    intro i b hi hb h
    have e : xs.drop i = [] := List.drop_of_length_le (by omega)
    rw [e] at h ⊢
    exact hb h
  | succ d ih =>
    intro i b hi hb h
    have hd := drop_at xs i (by omega)
    have hr := rdRule_i xs i (by omega)
    rw [hd] at h ⊢
    simp only [dFrom] at h ⊢
    refine ih (i + 1) _ (by omega) ?_ h
    intro h0
    split
    · next hc =>
      rw [hr]
      simp only [Bool.and_eq_true] at hc
      exact hc.1
    · next hc =>
      rw [if_neg hc] at h0
      exact hb h0
theorem decM_to (xs : List S35) (qo qs qt : Int) (h : 0 ≤ decM xs qo qs qt) (h1 : ¬ (rd_T35 xs (decM xs qo qs qt)).f4 = 1) (h2 : ¬ (rd_T35 xs (decM xs qo qs qt)).f4 = 2) :
    isSit (rd_T35 xs (decM xs qo qs qt)).f5.f0 (rd_T35 xs (decM xs qo qs qt)).f5.f1 = true := by
  have := dFrom_app xs qo qs qt xs.length 0 (-1) (by omega) (fun h => absurd h (by decide)) (by simpa [decM] using h)
  rw [List.drop_zero] at this
  change appS (rd_T35 xs (decM xs qo qs qt)) qo qs qt = true at this
  generalize rd_T35 xs (decM xs qo qs qt) = r at this h1 h2 ⊢
  unfold appS appl isRul at this
  simp only [Bool.and_eq_true, Bool.or_eq_true, decide_eq_true_eq] at this
  obtain ⟨⟨_, _, _, _, ht⟩, _⟩ := this
  rcases ht with ⟨h | h, _⟩ | ⟨_, h⟩
  · exact absurd h h1
  · exact absurd h h2
  · exact h
def actM (xs : List S35) (qo qs qt : Int) : Int := if decM xs qo qs qt < 0 then 1 else (rd_T35 xs (decM xs qo qs qt)).f4
def folS (xs : List S35) (qt qo qs : Int) (p : List S33) (c : Int → Int → List S33 → Int × Int × Int × List S33) : Int × Int × Int × List S33 :=
  if actM xs qo qs qt = 1 then (1, qo, qs, p ++ [(⟨qo, qs⟩ : S33)]) else if actM xs qo qs qt = 2 then (2, qo, qs, p ++ [(⟨qo, qs⟩ : S33)]) else
  if (p ++ [(⟨qo, qs⟩ : S33)]).any (sameSs (rd_T35 xs (decM xs qo qs qt)).f5.f0 (rd_T35 xs (decM xs qo qs qt)).f5.f1) = true then (3, (rd_T35 xs (decM xs qo qs qt)).f5.f0, (rd_T35 xs (decM xs qo qs qt)).f5.f1, p ++ [(⟨qo, qs⟩ : S33)])
  else c (rd_T35 xs (decM xs qo qs qt)).f5.f0 (rd_T35 xs (decM xs qo qs qt)).f5.f1 (p ++ [(⟨qo, qs⟩ : S33)])
def fol (xs : List S35) (qt : Int) : Nat → Int → Int → List S33 → Int × Int × Int × List S33
  | 0, qo, qs, p => folS xs qt qo qs p fun a b p' => (4, a, b, p')
  | n + 1, qo, qs, p => folS xs qt qo qs p fun a b p' => fol xs qt n a b p'
def folM (xs : List S35) (qo qs qt : Int) : Int × Int × Int × List S33 := if isReq qo qs qt = true then fol xs qt 5 qo qs [] else (0, 0, 0, [])
def lpP (xs : List S35) (o : Int) (n : Nat) : Bool := decide ((folM xs o ((n % 10 : Nat) : Int) ((1 + n / 10 : Nat) : Int)).1 = 3)
def lpL (xs : List S35) (o : Int) (n d : Nat) : List Int := ((List.range' n d).filter (lpP xs o)).map fun (n : Nat) => (n : Int)
theorem lpL_len (xs : List S35) (o : Int) (n d : Nat) : (lpL xs o n d).length ≤ d := by
  unfold lpL
  have := List.length_filter_le (lpP xs o) (List.range' n d)
  simp at this ⊢
  omega
theorem lpL_succ (xs : List S35) (o : Int) (n d : Nat) : lpL xs o n (d + 1) = (if lpP xs o n = true then [(n : Int)] else []) ++ lpL xs o (n + 1) d := by
  unfold lpL
  rw [show List.range' n (d + 1) = n :: List.range' (n + 1) d from rfl, List.filter_cons]
  split <;> rfl
def lpM (xs : List S35) (o : Int) : List Int := if inR o 1 9 = true then lpL xs o 0 40 else []
theorem lpM_len (xs : List S35) (o : Int) : (lpM xs o).length ≤ 40 := by
  unfold lpM
  split
  · exact lpL_len xs o 0 40
  · simp

theorem impl_in (a b c : Int) : impl_InRange.f a b c = some (inR a b c) := by
  unfold impl_InRange.f inR; exact and_if _ _

theorem impl_sit (a b : Int) : impl_IsSite.f a b = some (isSit a b) := by
  unfold impl_IsSite.f isSit; simp only [impl_in, Option.bind_some]; cases inR a 1 9 <;> simp

theorem impl_req (o s t : Int) : impl_IsRequest.f o s t = some (isReq o s t) := by
  unfold impl_IsRequest.f isReq; simp only [impl_sit, impl_in, Option.bind_some]
  cases isSit o s <;> simp

theorem or5 (n : Nat) (a b c d e : Int) : cmp_Or_int.f (n + 6) [a, b, c, d, e] = some (if a = 0 then (if b = 0 then (if c = 0 then (if d = 0 then e else d) else c) else b) else a) := by
  have w0 : wrap64 (0 + 1) = 1 := wr (by omega) (by omega)
  have w1 : wrap64 (1 + 1) = 2 := wr (by omega) (by omega)
  have w2 : wrap64 (2 + 1) = 3 := wr (by omega) (by omega)
  have w3 : wrap64 (3 + 1) = 4 := wr (by omega) (by omega)
  have w4 : wrap64 (4 + 1) = 5 := wr (by omega) (by omega)
  unfold cmp_Or_int.f
  simp only [cmp_Or_int.l0, w0, w1, w2, w3, w4]
  by_cases h1 : a = 0 <;> by_cases h2 : b = 0 <;> by_cases h3 : c = 0 <;> by_cases h4 : d = 0 <;> by_cases h5 : e = 0 <;> simp [h1, h2, h3, h4, h5, rd]

theorem cmp_eq (a b : Int) : cmp_Compare_int.f a b = some (if a < b then -1 else if a > b then 1 else 0) := by
  unfold cmp_Compare_int.f cmp_isNaN_int.f; simp only [Option.bind_some, bne_self_eq_false]
  by_cases h1 : a < b <;> by_cases h2 : a > b <;> simp [h1, h2]


theorem impl_pat (a b : Int) : impl_IsPattern.f a b = some (isPat a b) := by
  unfold impl_IsPattern.f isPat; simp only [impl_in, Option.bind_some]; cases inR a 0 9 <;> simp


def sameSite (a b : Int) (r : S33) : Bool := (r.f0 == a && (r.f1 == b))
theorem sameSite_c (a b : Int) (r : S33) : (a == r.f0 && (b == r.f1)) = sameSite a b r := by
  have E0 : ∀ x y : Int, (x == y) = (y == x) := fun x y => by rw [beq_dec, beq_dec]; exact decide_eq_decide.2 eq_comm
  unfold sameSite
  rw [E0 a, E0 b]

theorem ixSite_l (k : Nat) (xs : List S33) (a b : Int) (hn : xs.length ≤ 1048576) (hk : xs.length < k) : impl_Site_142.f k xs a b = some (if xs.any (sameSite a b) then ((xs.findIdx (sameSite a b) : Nat) : Int) else -1) := by
  have L := loop_run 0 (fun k (_ : Unit) i => impl_Site_142.l0 k xs (xs.length : Int) i a b) xs.length (fun _ i => if (xs.drop i).any (sameSite a b) then ((i + (xs.drop i).findIdx (sameSite a b) : Nat) : Int) else -1) (fun _ _ => True) (by omega)
    (fun k u_ i hm hi hI ih => by
      have hd := drop_at xs i hi
      have hr := rdSite_i xs i hi
      generalize xs[i] = r at hd hr
      have ih' := ih () trivial
      try dsimp only at ih'
      simp only [impl_Site_142.l0]
      rw [if_pos (by omega), if_pos (by omega), if_pos (by omega)]
      simp only [hr]
      rw [sameSite_c, ih', hd, List.any_cons, List.findIdx_cons]
      cases sameSite a b r
      · simp only [Bool.false_or, Bool.false_eq_true, if_false, cond_false]
        congr 1
        split
        · omega
        · rfl
      · simp)
    (fun k u_ hm hI => by
      simp only [impl_Site_142.l0]
      rw [if_neg nlt, List.drop_of_length_le (Nat.le_refl _)]
      simp) k hk () trivial
  try dsimp only at L
  unfold impl_Site_142.f
  rw [L, List.drop_zero, Nat.zero_add]


theorem hasSite_eq (k : Nat) (xs : List S33) (a b : Int) (hn : xs.length ≤ 1048576) (hk : xs.length < k) : impl_Site_119.f k xs a b = some (xs.any (sameSite a b)) := by
  unfold impl_Site_119.f
  rw [ixSite_l k xs a b hn hk, Option.bind_some]
  congr 1
  split
  · next h => rw [h]; exact decide_eq_true (by omega)
  · next h => rw [Bool.eq_false_iff.2 h]; rfl


theorem bind_ok {α β : Type} {o : Option α} {f : α → Option β} {Q : α → Prop} {R : β → Prop} (h : ∃ r, o = some r ∧ Q r) (hf : ∀ r, Q r → ∃ y, f r = some y ∧ R y) : ∃ y, o.bind f = some y ∧ R y := by
  obtain ⟨r, rfl, q⟩ := h; exact hf r q
theorem if_ok {β : Type} {p : Prop} [Decidable p] {a b : Option β} {R : β → Prop} (h : p → ∃ y, a = some y ∧ R y) (h' : ¬ p → ∃ y, b = some y ∧ R y) : ∃ y, (if p then a else b) = some y ∧ R y := by
  by_cases c : p
  · rw [if_pos c]; exact h c
  · rw [if_neg c]; exact h' c
theorem and255 (a : Int) : 0 ≤ Go.bits .and .i64 a 255 ∧ Go.bits .and .i64 a 255 ≤ 255 := by
  have h : ((BitVec.ofInt (IntKind.bits .i64) a) &&& (BitVec.ofInt (IntKind.bits .i64) 255)).toNat ≤ 255 := by
    rw [BitVec.toNat_and]; exact Nat.le_trans Nat.and_le_right (by decide)
  show 0 ≤ IntKind.wrap .i64 _ ∧ IntKind.wrap .i64 _ ≤ 255
  generalize ((BitVec.ofInt (IntKind.bits .i64) a) &&& (BitVec.ofInt (IntKind.bits .i64) 255)).toNat = n at h
  have e : IntKind.wrap .i64 (n : Int) = (n : Int) := by rw [i64_w]; exact wr (i := (n : Int)) (by omega) (by omega)
  rw [e]; omega

theorem new_ok (s : List Int) (hs : s.length ≤ 1048576) : ∀ (d k : Nat) (y : Int) (i : Nat), i + d = s.length → d < k → ∃ r, spec_l1New.l0 k s y (i : Int) = some r ∧ r.1 = s ∧ r.2.1 = 0 := by
  intro d
  induction d with
  | zero =>
    intro k y i hi hk
    obtain ⟨k, rfl⟩ : ∃ m, k = m + 1 := ⟨k - 1, by omega⟩
    simp only [spec_l1New.l0]
    rw [if_neg (by omega)]
    exact ⟨_, rfl, rfl, rfl⟩
  | succ d ih =>
    intro k y i hi hk
    obtain ⟨k, rfl⟩ : ∃ m, k = m + 1 := ⟨k - 1, by omega⟩
    simp only [spec_l1New.l0]
    rw [if_pos (by omega)]
    refine if_ok (fun _ => ?_) (fun _ => ⟨_, rfl, rfl, rfl⟩)
    rw [if_pos (by omega), wr (i := (i : Int) + 1) (by omega) (by omega)]
    exact ih k _ (i + 1) (by omega) (by omega)
theorem l1New_ok (k : Nat) (s : List Int) (hs : s.length ≤ 1048576) (hk : s.length < k) : ∃ r, spec_l1New.f k s = some r ∧ r.1 = s ∧ r.2.1 = 0 := by
  unfold spec_l1New.f
  exact new_ok s hs s.length k _ 0 (by omega) hk


theorem byte_ok (s : List Int) (p x : Int) (hs : s.length ≤ 1048576) (hp : 0 ≤ p) : ∃ r, spec_l1Byte.f s p x = some r ∧ (0 ≤ r.1 ∧ r.1 ≤ 255) ∧ 0 ≤ r.2.1 := by
  unfold spec_l1Byte.f
  refine if_ok (fun h => ?_) (fun _ => ⟨_, rfl, and255 _, hp⟩)
  rw [if_pos hp, wr (i := p + 1) (by omega) (by omega)]
  exact ⟨_, rfl, and255 _, by show (0 : Int) ≤ p + 1; omega⟩


theorem below_ok (s : List Int) (p x n : Int) (hs : s.length ≤ 1048576) (hp : 0 ≤ p) (h0 : 0 < n) (h1 : n ≤ 256) : ∃ r, spec_l1Below.f s p x n = some r ∧ (0 ≤ r.1 ∧ r.1 < n) ∧ 0 ≤ r.2.1 := by
  unfold spec_l1Below.f
  rw [if_neg (by omega), if_pos h1]
  refine bind_ok (byte_ok s p x hs hp) fun r hr => ?_
  rw [if_neg (by omega)]
  exact ⟨_, rfl, ⟨Int.tmod_nonneg _ hr.1.1, Int.tmod_lt_of_pos _ h0⟩, hr.2⟩


theorem once_ok (s : List Int) (p x n : Int) (hs : s.length ≤ 1048576) (hp : 0 ≤ p) (h0 : 0 < n) (h1 : n ≤ 256) : ∃ r, spec_l1Once.f s p x n = some r ∧ 0 ≤ r.2.1 := by
  unfold spec_l1Once.f
  exact bind_ok (below_ok s p x n hs hp h0 h1) fun r hr => ⟨_, rfl, hr.2⟩


theorem site_ok (s : List Int) (p x : Int) (hs : s.length ≤ 1048576) (hp : 0 ≤ p) : ∃ r, spec_l9Site.f s p x = some r ∧ 0 ≤ r.2.2.1 := by
  unfold spec_l9Site.f
  exact bind_ok (below_ok s p x _ hs hp (by omega) (by omega)) fun r hr => bind_ok (below_ok s _ _ _ hs hr.2 (by omega) (by omega)) fun r hr => ⟨_, rfl, hr.2⟩


theorem request_ok (s : List Int) (p x : Int) (hs : s.length ≤ 1048576) (hp : 0 ≤ p) : ∃ r, spec_l13Request.f s p x = some r ∧ 0 ≤ r.2.2.2.1 := by
  unfold spec_l13Request.f
  exact bind_ok (site_ok s p x hs hp) fun r hr => bind_ok (below_ok s _ _ _ hs hr (by omega) (by omega)) fun r2 h2 => ⟨_, rfl, h2.2⟩


theorem pattern_ok (s : List Int) (p x : Int) (hs : s.length ≤ 1048576) (hp : 0 ≤ p) : ∃ r, spec_l9Pattern.f s p x = some r ∧ 0 ≤ r.2.2.1 := by
  unfold spec_l9Pattern.f
  exact bind_ok (below_ok s p x _ hs hp (by omega) (by omega)) fun r hr => bind_ok (below_ok s _ _ _ hs hr.2 (by omega) (by omega)) fun r hr => ⟨_, rfl, hr.2⟩

theorem spec_in (a b c : Int) : spec_l1In.f a b c = some (inR a b c) := by
  unfold spec_l1In.f inR; exact and_if _ _

theorem spec_sit (a b : Int) : spec_IsSite.f a b = some (isSit a b) := by
  unfold spec_IsSite.f isSit; simp only [spec_in, Option.bind_some]; cases inR a 1 9 <;> simp

theorem spec_req (o s t : Int) : spec_IsRequest.f o s t = some (isReq o s t) := by
  unfold spec_IsRequest.f isReq; simp only [spec_sit, spec_in, Option.bind_some]
  cases isSit o s <;> simp


theorem rdIntC (xs : List Int) (i : Nat) (h : i < xs.length) : rd xs (i : Int) = xs[i] := rd_at _ xs i h
theorem contains_eq (k : Nat) (xs : List Int) (o : Int) (hn : xs.length ≤ 9223372036854775806) (hk : xs.length < k) : laws_contains.f k xs o = some (decide (o ∈ xs)) := by
  have L := loop_run 0 (fun k (_ : Unit) i => laws_contains.l0 k xs o i) xs.length (fun _ i => decide (o ∈ xs.drop i)) (fun _ _ => True) hn
    (fun k s i hm hi hI ih => by
      simp only [laws_contains.l0]
      rw [if_pos (by omega), if_pos (by omega), rdIntC _ _ hi, drop_at _ _ hi, ih () trivial]
      by_cases h : xs[i] = o
      · rw [if_pos h]; simp [h]
      · have e : (o ∈ xs[i] :: xs.drop (i + 1)) ↔ o ∈ xs.drop (i + 1) := by
          rw [List.mem_cons]; exact or_iff_right (fun e => h e.symm)
        rw [if_neg h, decide_eq_decide.2 e])
    (fun k s hm hI => by
      simp only [laws_contains.l0]
      rw [if_neg nlt, List.drop_of_length_le (Nat.le_refl _)]
      rfl) k hk () trivial
  try dsimp only at L
  unfold laws_contains.f
  rw [L, List.drop_zero]

def neqSiteiES (a b : S33) : Bool := !(a.f0 == b.f0) || (!(a.f1 == b.f1))
theorem iES_l (k : Nat) (xs ys : List S33) (hn : xs.length ≤ 1048576) (hy : xs.length = ys.length) (hk : xs.length < k) : impl_Site_127.l0 k xs ys (xs.length : Int) 0 = some ((xs.zip ys).all fun p => !neqSiteiES p.1 p.2) := by
  have L := loop_run 0 (fun k (_ : Unit) i => impl_Site_127.l0 k xs ys (xs.length : Int) i) xs.length (fun _ i => ((xs.drop i).zip (ys.drop i)).all fun p => !neqSiteiES p.1 p.2) (fun _ _ => True) (by omega)
    (fun k u_ i hm hi hI ih => by
      have hd := drop_at xs i hi
      have hr := rdSite_i xs i hi
      have hd2 := drop_at ys i (by omega)
      have hr2 := rdSite_i ys i (by omega)
      generalize xs[i] = r at hd hr
      generalize ys[i] = q at hd2 hr2
      have ih' := ih () trivial
      try dsimp only at ih'
      simp only [impl_Site_127.l0]
      rw [if_pos (by omega), if_pos (by omega), if_pos (by omega), if_pos (by omega)]
      simp only [hr, hr2]
      rw [hd, hd2, List.zip_cons_cons, List.all_cons, ih']
      show (if neqSiteiES r q = true then some false else _) = _
      cases neqSiteiES r q <;> simp)
    (fun k u_ hm hI => by
      simp only [impl_Site_127.l0]
      rw [if_neg nlt, List.drop_of_length_le (Nat.le_refl _)]
      rfl) k hk () trivial
  try dsimp only at L
  rw [L]
  rfl

theorem eqSite_lib (k : Nat) (xs ys : List S33) (hn : xs.length ≤ 1048576) (hk : xs.length < k) : impl_Site_127.f k xs ys = some (decide (xs.length = ys.length) && (xs.zip ys).all fun p => !neqSiteiES p.1 p.2) := by
  unfold impl_Site_127.f
  by_cases h : xs.length = ys.length
  · rw [if_pos (by omega), iES_l k xs ys hn h hk]; simp [h]
  · rw [if_neg (by omega)]; simp [h]

def neqSitesEO (a b : S33) : Bool := !(a.f0 == b.f0) || (!(a.f1 == b.f1))
def eqoM (a b c : Int) (xs : List S33) (d e f : Int) (ys : List S33) : Bool := decide (a = d) && (decide (b = e) && (decide (c = f) && (decide (xs.length = ys.length) && (xs.zip ys).all fun p => !neqSiteiES p.1 p.2)))
theorem impl_eqo (k : Nat) (a b c : Int) (xs : List S33) (d e f : Int) (ys : List S33) (hn : xs.length ≤ 1048576) (hk : xs.length < k) : impl_EqualOutcomes.f k a b c xs d e f ys = some (eqoM a b c xs d e f ys) := by
  unfold impl_EqualOutcomes.f eqoM
  rw [eqSite_lib k xs ys hn hk]
  by_cases h1 : a = d <;> by_cases h2 : b = e <;> by_cases h3 : c = f <;> simp [h1, h2, h3]


theorem impl_befo (n : Nat) (a0 a1 a2 a3 a4 a5 a6 a7 b0 b1 b2 b3 b4 b5 b6 b7 : Int) : impl_IsBefore.f (n + 6) a0 a1 a2 a3 a4 a5 a6 a7 b0 b1 b2 b3 b4 b5 b6 b7 = some (befo a0 a1 a5 a6 a7 b0 b1 b5 b6 b7) := by
  unfold impl_IsBefore.f impl_compareRules.f befo; simp only [cmp_eq, or5, Option.bind_some]
  rcases Int.lt_trichotomy a1 b1 with h | h | h
  · simp [show ¬ b1 < a1 by omega, show b1 > a1 by omega, show ¬ a1 = b1 by omega]
  · subst h
    rcases Int.lt_trichotomy a5 b5 with h | h | h
    · simp [h, show ¬ a5 = b5 by omega]
    · subst h
      rcases Int.lt_trichotomy a0 b0 with h | h | h
      · simp [h, show ¬ a0 = b0 by omega]
      · subst h
        rcases Int.lt_trichotomy a6 b6 with h | h | h
        · simp [h, show ¬ a6 = b6 by omega]
        · subst h
          rcases Int.lt_trichotomy a7 b7 with h | h | h
          · simp [h]
          · subst h; simp
          · simp [h, show ¬ a7 < b7 by omega]
        · simp [h, show ¬ a6 < b6 by omega, show ¬ a6 = b6 by omega]
      · simp [h, show ¬ a0 < b0 by omega, show ¬ a0 = b0 by omega]
    · simp [h, show ¬ a5 < b5 by omega, show ¬ a5 = b5 by omega]
  · simp [h, show ¬ a1 = b1 by omega]


theorem impl_mtch (a b c d : Int) : impl_MatchSite.f a b c d = some (mtch a b c d) := by
  unfold impl_MatchSite.f mtch; simp only [impl_pat, impl_sit, Option.bind_some]
  cases isPat a b <;> cases isSit c d <;> simp
  by_cases h1 : a = 0 <;> by_cases h2 : a = c <;> by_cases h3 : b = -1 <;> simp [h1, h2, h3] <;> simp [beq_dec]


theorem impl_rul (n : Nat) (e p po ps s a o b : Int) : impl_IsRule.f (n + 2) e p po ps s a o b = some (isRul e p po ps s a o b) := by
  unfold impl_IsRule.f isRul; simp only [impl_in, impl_pat, Option.bind_some, impl_IsRule.j0, impl_IsRule.j1, impl_sit]
  cases inR e 1 5 <;> cases inR p 1 9 <;> cases isPat po ps <;> cases inR s 0 4 <;> simp
  by_cases h1 : a = 1
  · subst h1; simp [beq_dec]
  · by_cases h2 : a = 2
    · subst h2; simp [beq_dec]
    · by_cases h3 : a = 3
      · subst h3; simp
      · simp [h1, h2, h3]


theorem impl_appl (n : Nat) (e p po ps s a o b qo qs qt : Int) : impl_Applies.f (n + 2) e p po ps s a o b qo qs qt = some (appl e p po ps s a o b qo qs qt) := by
  unfold impl_Applies.f appl; simp only [impl_rul, impl_req, impl_mtch, Option.bind_some]
  cases isRul e p po ps s a o b <;> cases isReq qo qs qt <;> cases mtch po ps qo qs <;> by_cases h : s = 0 <;> simp [h, beq_dec]


theorem impl_DecideRule_eq (k : Nat) (xs : List S35) (qo qs qt : Int) (hn : xs.length ≤ 1048576) (hk : xs.length + 6 < k) : impl_DecideRule.f k xs qo qs qt = some (decM xs qo qs qt) := by
  have L := loop_run 6 (fun k (b : Int) i => impl_DecideRule.l0 k xs b xs (xs.length : Int) i qo qs qt) xs.length (fun b i => dFrom xs qo qs qt (xs.drop i) i b) (fun b i => -1 ≤ b ∧ b < i) (by omega)
    (fun k b i hm hi hI ih => by
      have hd := drop_at xs i hi
      have hr := rdRule_i xs i hi
      generalize xs[i] = r at hd hr
      obtain ⟨h0, h1⟩ := hI
      simp only [impl_DecideRule.l0]
      obtain ⟨k, rfl⟩ : ∃ z, k = z + 6 := ⟨k - 6, by omega⟩
      rw [if_pos (by omega), if_pos (by omega), if_pos (by omega), hr, hd]
      simp only [dFrom, impl_appl, impl_befo, Option.bind_some, impl_appl (k + 4)]
      have ih1 := ih i (by omega)
      have ih2 := ih b (by omega)
      try dsimp only at ih1 ih2
      unfold appS befS
      cases appl r.f0 r.f1 r.f2.f0 r.f2.f1 r.f3 r.f4 r.f5.f0 r.f5.f1 qo qs qt
      · simp only [Bool.false_and, Bool.false_eq_true, if_false]; exact ih2
      · by_cases hb : b < 0
        · simp only [hb, if_true, decide_true, Bool.true_or, Bool.and_true]; exact ih1
        · rw [if_pos rfl, if_neg hb, if_pos (by omega), if_pos (by omega)]
          have hb' : decide (b < 0) = false := decide_eq_false hb
          simp only [hb', Bool.false_or, Bool.true_and]
          split
          · exact ih1
          · exact ih2)
    (fun k b hm hI => by
      simp only [impl_DecideRule.l0]
      rw [if_neg nlt, List.drop_of_length_le (Nat.le_refl _)]
      rfl) k hk (-1) (by omega)
  try dsimp only at L
  unfold impl_DecideRule.f
  rw [L]
  rfl


theorem impl_ActionFor_eq (k : Nat) (xs : List S35) (qo qs qt : Int) (hn : xs.length ≤ 1048576) (hk : xs.length + 6 < k) : impl_ActionFor.f k xs qo qs qt = some (if decM xs qo qs qt < 0 then 1 else (rd_T35 xs (decM xs qo qs qt)).f4) := by
  unfold impl_ActionFor.f
  rw [impl_DecideRule_eq k xs qo qs qt hn hk]
  have h := decM_range xs qo qs qt
  simp only [Option.bind_some]
  by_cases hb : decM xs qo qs qt < 0
  · rw [if_pos hb, if_pos hb]
  · rw [if_neg hb, if_neg hb, if_pos (by omega), if_pos (by omega)]


theorem impl_folS (xs : List S35) (hn : xs.length ≤ 1048576) (qt : Int) (k : Nat) (qo qs c x y : Int) (p : List S33) (F : Int → Int → List S33 → Int × Int × Int × List S33)
    (hp : p.length ≤ 5) (hq : p.any (sameSs qo qs) = false) (hk : xs.length + 20 < k)
    (hF : ∀ a b, (p ++ [(⟨qo, qs⟩ : S33)]).any (sameSs a b) = false → impl_FollowRequest.l0 (k + 1) xs a b qt c qo qs (p ++ [(⟨qo, qs⟩ : S33)]) = some (F a b (p ++ [(⟨qo, qs⟩ : S33)]))) :
    impl_FollowRequest.l0 (k + 2) xs qo qs qt c x y p = some (folS xs qt qo qs p F) := by
  have hl : (p ++ [(⟨qo, qs⟩ : S33)]).length = p.length + 1 := by simp
  have he : sameSite = sameSs := rfl
  unfold folS
  rw [impl_FollowRequest.l0, hasSite_eq _ p qo qs (by omega) (by omega), he, hq, Option.bind_some, if_neg (by simp), if_neg (by omega), if_pos (by omega), Option.bind_some, impl_ActionFor_eq _ xs _ _ _ hn (by omega), Option.bind_some]
  rw [show (if decM xs qo qs qt < 0 then (1 : Int) else (rd_T35 xs (decM xs qo qs qt)).f4) = actM xs qo qs qt from rfl]
  by_cases h1 : actM xs qo qs qt = 1
  · rw [if_pos h1, if_pos h1]
  · rw [if_neg h1, if_neg h1]
    by_cases h2 : actM xs qo qs qt = 2
    · rw [if_pos h2, if_pos h2]
    · rw [if_neg h2, if_neg h2]
      have h0 : ¬ decM xs qo qs qt < 0 := fun h => h1 (by unfold actM; rw [if_pos h])
      have hR := decM_range xs qo qs qt
      rw [impl_DecideRule_eq _ xs _ _ _ hn (by omega), Option.bind_some, if_pos (by omega), if_pos (by omega)]
      cases hh : (p ++ [(⟨qo, qs⟩ : S33)]).any (sameSs (rd_T35 xs (decM xs qo qs qt)).f5.f0 (rd_T35 xs (decM xs qo qs qt)).f5.f1)
      · rw [if_neg (by simp)]
        exact hF _ _ hh
      · rw [if_pos rfl, impl_FollowRequest.l0, hasSite_eq _ _ _ _ (by omega) (by omega), he, hh, Option.bind_some, if_pos rfl]
theorem impl_fol (xs : List S35) (hn : xs.length ≤ 1048576) (qt : Int) : ∀ (n k : Nat) (qo qs c x y : Int) (p : List S33), p.length + n = 5 → p.any (sameSs qo qs) = false → xs.length + 30 + 2 * n < k →
    impl_FollowRequest.l0 k xs qo qs qt c x y p = some (fol xs qt n qo qs p)
  | 0, k, qo, qs, c, x, y, p, hp, hq, hk => by
    obtain ⟨k, rfl⟩ : ∃ m, k = m + 2 := ⟨k - 2, by omega⟩
    refine impl_folS xs hn qt k qo qs c x y p _ (by omega) hq (by omega) fun a b hh => ?_
    have hl : (p ++ [(⟨qo, qs⟩ : S33)]).length = p.length + 1 := by simp
    have he : sameSite = sameSs := rfl
    rw [impl_FollowRequest.l0, hasSite_eq _ _ _ _ (by omega) (by omega), he, hh, Option.bind_some, if_neg (by simp), if_pos (by omega)]
  | n + 1, k, qo, qs, c, x, y, p, hp, hq, hk => by
    obtain ⟨k, rfl⟩ : ∃ m, k = m + 2 := ⟨k - 2, by omega⟩
    refine impl_folS xs hn qt k qo qs c x y p _ (by omega) hq (by omega) fun a b hh => ?_
    have hl : (p ++ [(⟨qo, qs⟩ : S33)]).length = p.length + 1 := by simp
    exact impl_fol xs hn qt n (k + 1) a b c qo qs _ (by omega) hh (by omega)
theorem impl_Follow_eq (k : Nat) (xs : List S35) (qo qs qt : Int) (hn : xs.length ≤ 1048576) (hk : xs.length + 50 < k) : impl_FollowRequest.f k xs qo qs qt = some (folM xs qo qs qt) := by
  unfold impl_FollowRequest.f folM
  rw [impl_req, Option.bind_some]
  by_cases h : isReq qo qs qt = true
  · rw [if_pos h, if_pos h]
    exact impl_fol xs hn qt 5 k qo qs 0 0 0 [] (by simp) (by simp) (by omega)
  · rw [if_neg h, if_neg h]



theorem impl_Settled_eq (k : Nat) (xs : List S35) (qo qs qt : Int) (hn : xs.length ≤ 1048576) (hk : xs.length + 50 < k) : impl_IsSettled.f k xs qo qs qt = some (inR (folM xs qo qs qt).1 1 2) := by
  unfold impl_IsSettled.f
  rw [impl_Follow_eq k xs qo qs qt hn hk, Option.bind_some]
  generalize (folM xs qo qs qt).1 = z
  unfold inR
  by_cases h1 : z = 1
  · subst h1; rfl
  · by_cases h2 : z = 2
    · subst h2; rfl
    · rw [if_neg h1, beq_dec, decide_eq_false h2]
      by_cases h3 : 1 ≤ z
      · rw [decide_eq_true h3, decide_eq_false (show ¬ z ≤ 2 by omega)]; rfl
      · rw [decide_eq_false h3]; rfl


theorem impl_lp (xs : List S35) (o : Int) (hn : xs.length ≤ 1048576) :
    ∀ (d k n : Nat) (c : List Int), n + d = 40 → c.length ≤ n → 2 * d + xs.length + 60 < k → impl_LoopsFrom.l0 k xs o c (n : Int) = some (c ++ lpL xs o n d) := by
  intro d
  induction d with
  | zero =>
    intro k n c h1 h2 h3
    obtain ⟨k, rfl⟩ : ∃ m, k = m + 1 := ⟨k - 1, by omega⟩
    rw [impl_LoopsFrom.l0, if_neg (by omega)]
    simp [lpL]
  | succ d ih =>
    intro k n c h1 h2 h3
    obtain ⟨k, rfl⟩ : ∃ m, k = m + 1 := ⟨k - 1, by omega⟩
    have e1 : Int.tmod (n : Int) 10 = ((n % 10 : Nat) : Int) := rfl
    have e2 : Int.tdiv (n : Int) 10 = ((n / 10 : Nat) : Int) := rfl
    have e3 : (1 : Int) + ((n / 10 : Nat) : Int) = ((1 + n / 10 : Nat) : Int) := by omega
    rw [impl_LoopsFrom.l0, if_pos (by omega), e1, e2, wr (i := ((n / 10 : Nat) : Int)) (by omega) (by omega), e3, wr (i := ((1 + n / 10 : Nat) : Int)) (by omega) (by omega),
      impl_Follow_eq k xs o _ _ hn (by omega), Option.bind_some, wr (i := (n : Int) + 1) (by omega) (by omega), lpL_succ]
    by_cases h : (folM xs o ((n % 10 : Nat) : Int) ((1 + n / 10 : Nat) : Int)).1 = 3
    · rw [if_pos h, if_pos (by omega), if_pos (show lpP xs o n = true from decide_eq_true h), ← List.append_assoc]
      exact ih k (n + 1) (c ++ [(n : Int)]) (by omega) (by simp; omega) (by omega)
    · rw [if_neg h, if_neg (show ¬ lpP xs o n = true from fun e => h (of_decide_eq_true e)), List.nil_append]
      exact ih k (n + 1) c (by omega) (by omega) (by omega)
theorem impl_Loops_eq (k : Nat) (xs : List S35) (o : Int) (hn : xs.length ≤ 1048576) (hk : xs.length + 200 < k) : impl_LoopsFrom.f k xs o = some (lpM xs o) := by
  unfold impl_LoopsFrom.f lpM
  rw [Option.bind_some, impl_in, Option.bind_some]
  by_cases ho : inR o 1 9 = true
  · rw [if_pos ho, if_pos ho]
    exact impl_lp xs o hn 40 k 0 [] (by omega) (by simp) (by omega)
  · rw [if_neg ho, if_neg ho]


theorem l13_ok (s : List Int) (p x : Int) (hs : s.length ≤ 1048576) (hp : 0 ≤ p) : ∃ r, spec_l13Draw.f s p x = some r ∧ 0 ≤ r.2.2.2.2.2.2.2.2.1 := by
  unfold spec_l13Draw.f
  exact bind_ok (below_ok s p x _ hs hp (by omega) (by omega)) fun r1 h1 => bind_ok (below_ok s _ _ _ hs h1.2 (by omega) (by omega)) fun r2 h2 => bind_ok (pattern_ok s _ _ hs h2.2) fun r3 h3 =>
    bind_ok (below_ok s _ _ _ hs h3 (by omega) (by omega)) fun r4 h4 => bind_ok (below_ok s _ _ _ hs h4.2 (by omega) (by omega)) fun r5 h5 => if_ok (fun _ => bind_ok (site_ok s _ _ hs h5.2) fun r6 h6 => ⟨_, rfl, h6⟩) (fun _ => ⟨_, rfl, h5.2⟩)


theorem l13_l0 (s : List Int) (hs : s.length ≤ 1048576) : ∀ (d k : Nat) (xs : List S35) (p x : Int), d < k → xs.length + d ≤ 1000 → 0 ≤ p → ∃ r, spec_l13List.l0 k xs (d : Int) s p x = some r ∧ r.1.length ≤ xs.length + d ∧ 0 ≤ r.2.1 := by
  intro d
  induction d with
  | zero =>
    intro k xs p x hk hl hp
    obtain ⟨k, rfl⟩ : ∃ m, k = m + 1 := ⟨k - 1, by omega⟩
    simp only [spec_l13List.l0]
    rw [if_neg (by omega)]
    exact ⟨_, rfl, Nat.le_refl _, hp⟩
  | succ d ih =>
    intro k xs p x hk hl hp
    obtain ⟨k, rfl⟩ : ∃ m, k = m + 1 := ⟨k - 1, by omega⟩
    simp only [spec_l13List.l0]
    rw [if_pos (by omega)]
    refine bind_ok (l13_ok s p x hs hp) fun r hr => ?_
    rw [if_pos (by omega), wr (by omega) (by omega), show (((d + 1 : Nat) : Int) - 1) = (d : Int) by omega]
    obtain ⟨r2, e, h1, h2⟩ := ih k (xs ++ [⟨r.1, r.2.1, ⟨r.2.2.1, r.2.2.2.1⟩, r.2.2.2.2.1, r.2.2.2.2.2.1, ⟨r.2.2.2.2.2.2.1, r.2.2.2.2.2.2.2.1⟩⟩]) r.2.2.2.2.2.2.2.2.1 r.2.2.2.2.2.2.2.2.2 (by omega) (by simp; omega) hr
    simp only [List.length_append, List.length_singleton] at h1
    exact ⟨r2, e, by omega, h2⟩
theorem l13list_ok (k : Nat) (s : List Int) (p x : Int) (hs : s.length ≤ 1048576) (hk : 20 < k) (hp : 0 ≤ p) : ∃ r, spec_l13List.f k s p x = some r ∧ r.1.length ≤ 20 ∧ 0 ≤ r.2.1 := by
  unfold spec_l13List.f
  refine bind_ok (below_ok s p x _ hs hp (by omega) (by omega)) fun r hr => ?_
  obtain ⟨r2, e, h1, h2⟩ := l13_l0 s hs r.1.toNat k [] r.2.1 r.2.2 (by omega) (by simp; omega) hr.2
  rw [show ((r.1.toNat : Nat) : Int) = r.1 by omega] at e
  exact ⟨r2, e, by simp at h1; omega, h2⟩


theorem l18_l0 (s : List Int) (hs : s.length ≤ 1048576) : ∀ (d k : Nat) (xs : List S35) (p x : Int), d < k → xs.length + d ≤ 1000 → 0 ≤ p → ∃ r, spec_l18List.l0 k xs (d : Int) s p x = some r ∧ r.1.length ≤ xs.length + d ∧ 0 ≤ r.2.1 := by
  intro d
  induction d with
  | zero =>
    intro k xs p x hk hl hp
    obtain ⟨k, rfl⟩ : ∃ m, k = m + 1 := ⟨k - 1, by omega⟩
    simp only [spec_l18List.l0]
    rw [if_neg (by omega)]
    exact ⟨_, rfl, Nat.le_refl _, hp⟩
  | succ d ih =>
    intro k xs p x hk hl hp
    obtain ⟨k, rfl⟩ : ∃ m, k = m + 1 := ⟨k - 1, by omega⟩
    simp only [spec_l18List.l0]
    rw [if_pos (by omega)]
    refine bind_ok (below_ok s p x _ hs hp (by omega) (by omega)) fun r1 h1 => bind_ok (pattern_ok s _ _ hs h1.2) fun r2 h2 => bind_ok (site_ok s _ _ hs h2) fun r3 h3 => ?_
    rw [if_pos (by omega), wr (i := ((d + 1 : Nat) : Int) - 1) (by omega) (by omega), show (((d + 1 : Nat) : Int) - 1) = (d : Int) by omega]
    obtain ⟨r, e, q1, q2⟩ := ih k (xs ++ [⟨wrap64 (1 + r1.1), 4, ⟨r2.1, r2.2.1⟩, 0, 3, ⟨r3.1, r3.2.1⟩⟩]) r3.2.2.1 r3.2.2.2 (by omega) (by simp; omega) h3
    simp only [List.length_append, List.length_singleton] at q1
    exact ⟨r, e, by omega, q2⟩
theorem l18list_ok (k : Nat) (s : List Int) (p x : Int) (hs : s.length ≤ 1048576) (hk : 40 < k) (hp : 0 ≤ p) : ∃ r, spec_l18List.f k s p x = some r ∧ r.1.length ≤ 30 ∧ 0 ≤ r.2.1 := by
  unfold spec_l18List.f
  refine bind_ok (l13list_ok k s p x hs (by omega) hp) fun r0 h0 => bind_ok (below_ok s _ _ _ hs h0.2 (by omega) (by omega)) fun r hr => ?_
  obtain ⟨r2, e, h1, h2⟩ := l18_l0 s hs r.1.toNat k r0.1 r.2.1 r.2.2 (by omega) (by omega) hr.2
  rw [show ((r.1.toNat : Nat) : Int) = r.1 by omega] at e
  exact ⟨r2, e, by omega, h2⟩


theorem dfr_l0 (a b c : Int) : ∀ (n k : Nat) (xs : List S35) (i : Int), i + n = 9 → 1 ≤ i → xs.length + n ≤ 30 → n < k → ∃ r, spec_DrawFollowRequest.l0 k xs i a b c = some r ∧ r.1.length ≤ 30 := by
  intro n
  induction n with
  | zero =>
    intro k xs i h1 h2 h3 hk
    obtain ⟨k, rfl⟩ : ∃ m, k = m + 1 := ⟨k - 1, by omega⟩
    simp only [spec_DrawFollowRequest.l0]
    rw [if_neg (by omega)]
    exact ⟨_, rfl, by simpa using h3⟩
  | succ n ih =>
    intro k xs i h1 h2 h3 hk
    obtain ⟨k, rfl⟩ : ∃ m, k = m + 1 := ⟨k - 1, by omega⟩
    simp only [spec_DrawFollowRequest.l0]
    rw [if_pos (by omega), if_pos (by omega), wr (i := i + 1) (by omega) (by omega)]
    exact ih k _ (i + 1) (by omega) (by omega) (by simp; omega) (by omega)
theorem dfr_j0 (k : Nat) (s : List Int) (hs : s.length ≤ 1048576) (hk : 100 < k) (xs : List S35) (hx : xs.length ≤ 30) (p x : Int) (hp : 0 ≤ p) (a b c : Int) : ∃ r, spec_DrawFollowRequest.j0 k xs s p x a b c = some r ∧ r.1.length ≤ 30 := by
  obtain ⟨k, rfl⟩ : ∃ m, k = m + 1 := ⟨k - 1, by omega⟩
  simp only [spec_DrawFollowRequest.j0]
  exact bind_ok (once_ok s _ _ _ hs hp (by omega) (by omega)) fun r3 h3 => if_ok (fun _ => dfr_l0 a b c 8 k [] 1 (by omega) (by omega) (by simp) (by omega)) (fun _ => ⟨_, rfl, hx⟩)
theorem drawFollow_ok (k : Nat) (s : List Int) (hs : s.length ≤ 1048576) (hk : s.length + 200 < k) : ∃ r, spec_DrawFollowRequest.f k s = some r ∧ r.1.length ≤ 30 := by
  unfold spec_DrawFollowRequest.f
  refine bind_ok (l1New_ok k s hs (by omega)) fun r hr => ?_
  obtain ⟨e1, e2⟩ := hr
  rw [e1]
  exact bind_ok (l18list_ok k s _ _ hs (by omega) (by omega)) fun r2 h2 => bind_ok (request_ok s _ _ hs h2.2) fun r3 h3 => bind_ok (once_ok s _ _ _ hs h3 (by omega) (by omega)) fun r4 h4 =>
    if_ok (fun _ => dfr_j0 k s hs (by omega) _ h2.1 _ _ h4 _ _ _) (fun _ => dfr_j0 k s hs (by omega) _ h2.1 _ _ h4 _ _ _)


theorem act3 (xs : List S35) (qo qs qt : Int) (h1 : ¬ actM xs qo qs qt = 1) (h2 : ¬ actM xs qo qs qt = 2) : actM xs qo qs qt = 3 := by
  unfold actM at h1 h2 ⊢
  by_cases h : decM xs qo qs qt < 0
  · rw [if_pos h] at h1; exact absurd rfl h1
  · rw [if_neg h] at h1 h2 ⊢
    have h0 : 0 ≤ decM xs qo qs qt := by omega
    have := dFrom_app xs qo qs qt xs.length 0 (-1) (by omega) (fun h => absurd h (by decide)) (by simpa [decM] using h0)
    rw [List.drop_zero] at this
    change appS (rd_T35 xs (decM xs qo qs qt)) qo qs qt = true at this
    generalize rd_T35 xs (decM xs qo qs qt) = r at this h1 h2 ⊢
    unfold appS appl isRul at this
    simp only [Bool.and_eq_true, Bool.or_eq_true, decide_eq_true_eq] at this
    obtain ⟨⟨_, _, _, _, ht⟩, _⟩ := this
    rcases ht with ⟨h | h, _⟩ | ⟨h, _⟩
    · exact absurd h h1
    · exact absurd h h2
    · exact h
def apart (a b : S33) : Prop := ¬ (a.f0 = b.f0 ∧ a.f1 = b.f1)
def Good (xs : List S35) (qt : Int) (h : S33) (r : Int × Int × Int × List S33) : Prop :=
  (1 ≤ r.1 ∧ r.1 ≤ 4) ∧ ∃ (l : List S33) (z : S33), r.2.2.2 = l ++ [z] ∧ (l ++ [z]).length ≤ 6 ∧ (l ++ [z]).Pairwise apart ∧ (l ++ [z]).head? = some h ∧ (∀ s ∈ l, actM xs s.f0 s.f1 qt = 3) ∧ (r.1 = 1 ↔ actM xs z.f0 z.f1 qt = 1) ∧ (r.1 = 2 ↔ actM xs z.f0 z.f1 qt = 2)
theorem pair_more (p : List S33) (a b : Int) (hp : p.Pairwise apart) (h : p.any (sameSs a b) = false) : (p ++ [(⟨a, b⟩ : S33)]).Pairwise apart := by
  rw [List.pairwise_append]
  refine ⟨hp, List.pairwise_singleton _ _, fun x hx y hy => ?_⟩
  rw [List.mem_singleton] at hy
  subst hy
  intro hc
  rw [Bool.eq_false_iff] at h
  apply h
  rw [List.any_eq_true]
  exact ⟨x, hx, by unfold sameSs; simp [hc.1, hc.2]⟩
theorem folS_good (xs : List S35) (qt qo qs : Int) (p : List S33) (hd : S33) (c : Int → Int → List S33 → Int × Int × Int × List S33) (hp : p.length ≤ 5) (hpw : (p ++ [(⟨qo, qs⟩ : S33)]).Pairwise apart)
    (hh : (p ++ [(⟨qo, qs⟩ : S33)]).head? = some hd) (ha : ∀ s ∈ p, actM xs s.f0 s.f1 qt = 3)
    (hc : ∀ a b, actM xs qo qs qt = 3 → (p ++ [(⟨qo, qs⟩ : S33)]).any (sameSs a b) = false → Good xs qt hd (c a b (p ++ [(⟨qo, qs⟩ : S33)]))) : Good xs qt hd (folS xs qt qo qs p c) := by
  have hl : (p ++ [(⟨qo, qs⟩ : S33)]).length ≤ 6 := by simp; omega
  unfold folS
  by_cases h1 : actM xs qo qs qt = 1
  · rw [if_pos h1]
    refine ⟨⟨by dsimp only; omega, by dsimp only; omega⟩, p, ⟨qo, qs⟩, rfl, hl, hpw, hh, ha, ?_, ?_⟩
    · simp [h1]
    · simp [h1]
  · rw [if_neg h1]
    by_cases h2 : actM xs qo qs qt = 2
    · rw [if_pos h2]
      refine ⟨⟨by dsimp only; omega, by dsimp only; omega⟩, p, ⟨qo, qs⟩, rfl, hl, hpw, hh, ha, ?_, ?_⟩
      · simp [h2]
      · simp [h2]
    · rw [if_neg h2]
      have h3 := act3 xs qo qs qt h1 h2
      cases hs : (p ++ [(⟨qo, qs⟩ : S33)]).any (sameSs (rd_T35 xs (decM xs qo qs qt)).f5.f0 (rd_T35 xs (decM xs qo qs qt)).f5.f1)
      · rw [if_neg (by decide)]
        exact hc _ _ h3 hs
      · rw [if_pos rfl]
        refine ⟨⟨by dsimp only; omega, by dsimp only; omega⟩, p, ⟨qo, qs⟩, rfl, hl, hpw, hh, ha, ?_, ?_⟩
        · simp [h3]
        · simp [h3]
theorem head_more (p : List S33) (z hd : S33) (h : p.head? = some hd) : (p ++ [z]).head? = some hd := by
  cases p with
  | nil => simp at h
  | cons a p => simpa using h
theorem fol_good (xs : List S35) (qt : Int) (hd : S33) : ∀ (n : Nat) (qo qs : Int) (p : List S33), p.length + n = 5 → (p ++ [(⟨qo, qs⟩ : S33)]).Pairwise apart → (p ++ [(⟨qo, qs⟩ : S33)]).head? = some hd →
    (∀ s ∈ p, actM xs s.f0 s.f1 qt = 3) → Good xs qt hd (fol xs qt n qo qs p)
  | 0, qo, qs, p, hn, hpw, hh, ha => folS_good xs qt qo qs p hd _ (by omega) hpw hh ha fun a b h3 hs => by
    refine ⟨⟨by dsimp only; omega, by dsimp only; omega⟩, p, ⟨qo, qs⟩, rfl, by simp; omega, hpw, hh, ha, ?_, ?_⟩
    · simp [h3]
    · simp [h3]
  | n + 1, qo, qs, p, hn, hpw, hh, ha => folS_good xs qt qo qs p hd _ (by omega) hpw hh ha fun a b h3 hs =>
    fol_good xs qt hd n a b _ (by simp; omega) (pair_more _ a b hpw hs) (head_more _ _ _ hh) fun s hm => by
      rw [List.mem_append, List.mem_singleton] at hm
      rcases hm with hm | rfl
      · exact ha s hm
      · exact h3
theorem eqSite_self : ∀ xs : List S33, ((xs.zip xs).all fun p => !neqSiteiES p.1 p.2) = true
  | [] => rfl
  | r :: xs => by
    rw [List.zip_cons_cons, List.all_cons, eqSite_self xs]
    simp [neqSiteiES]
theorem lpM_mem (xs : List S35) (qo qs qt : Int) (h : isReq qo qs qt = true) : decide ((qs + 10 * (qt - 1)) ∈ lpM xs qo) = decide ((folM xs qo qs qt).1 = 3) := by
  have hr := h
  unfold isReq isSit inR at hr
  simp only [Bool.and_eq_true, decide_eq_true_eq] at hr
  obtain ⟨⟨⟨o1, o2⟩, s1, s2⟩, t1, t2⟩ := hr
  apply decide_eq_decide.2
  unfold lpM
  rw [if_pos (by unfold inR; simp; omega)]
  unfold lpL
  rw [List.mem_map]
  have hn : ((qs + 10 * (qt - 1)).toNat : Int) = qs + 10 * (qt - 1) := by omega
  have hm : (((qs + 10 * (qt - 1)).toNat % 10 : Nat) : Int) = qs := by omega
  have hd : ((1 + (qs + 10 * (qt - 1)).toNat / 10 : Nat) : Int) = qt := by omega
  constructor
  · rintro ⟨n, hmem, e⟩
    rw [List.mem_filter] at hmem
    have hp := hmem.2
    unfold lpP at hp
    rw [decide_eq_true_eq] at hp
    obtain rfl : n = (qs + 10 * (qt - 1)).toNat := by omega
    rw [hm, hd] at hp
    exact hp
  · intro hf
    refine ⟨(qs + 10 * (qt - 1)).toNat, ?_, hn⟩
    rw [List.mem_filter]
    refine ⟨by rw [List.mem_range'_1]; omega, ?_⟩
    unfold lpP
    rw [hm, hd]
    exact decide_eq_true hf
theorem foll_end (k : Nat) (xs : List S35) (hx : xs.length ≤ 30) (qo qs qt : Int) (h : isReq qo qs qt = true) (c a b : Int) (p : List S33) (hp : p.length ≤ 6) (hf : folM xs qo qs qt = (c, a, b, p)) (hc : 1 ≤ c ∧ c ≤ 4) (hk : 400 < k) :
    laws_FnFollowed.l0 k xs (p.length : Int) qo qs qt c a b p = some true := by
  have hr := h
  unfold isReq isSit inR at hr
  simp only [Bool.and_eq_true, decide_eq_true_eq] at hr
  obtain ⟨k, rfl⟩ : ∃ m, k = m + 1 := ⟨k - 1, by omega⟩
  simp only [laws_FnFollowed.l0]
  have hlen := lpM_len xs qo
  have hm := lpM_mem xs qo qs qt h
  rw [if_neg (by omega), impl_Settled_eq k xs qo qs qt (by omega) (by omega), Option.bind_some, impl_Loops_eq k xs qo (by omega) (by omega), Option.bind_some, wr (i := qt - 1) (by omega) (by omega), wr (i := 10 * (qt - 1)) (by omega) (by omega), wr (i := qs + 10 * (qt - 1)) (by omega) (by omega),
    contains_eq k _ _ (by omega) (by omega), Option.bind_some, hm, hf, impl_Follow_eq k xs qo qs qt (by omega) (by omega), Option.bind_some, hf, impl_eqo k _ _ _ _ _ _ _ _ (by show p.length ≤ _; omega) (by show p.length < _; omega), Option.bind_some]
  have he : eqoM c a b p c a b p = true := by unfold eqoM; rw [eqSite_self]; simp
  dsimp only
  rw [he]
  have hcc : c = 1 ∨ c = 2 ∨ c = 3 ∨ c = 4 := by omega
  rcases hcc with rfl | rfl | rfl | rfl <;> simp [inR]
theorem pw_get (p : List S33) (h : p.Pairwise apart) (i j : Nat) (hj : j < i) (hi : i < p.length) : (((p[i]).f0 == (p[j]'(by omega)).f0) && ((p[i]).f1 == (p[j]'(by omega)).f1)) = false := by
  have := (List.pairwise_iff_getElem.1 h) j i (by omega) hi hj
  rw [Bool.eq_false_iff]
  intro hc
  simp only [Bool.and_eq_true, beq_iff_eq] at hc
  exact this ⟨hc.1.symm, hc.2.symm⟩
theorem foll_l1 (xs : List S35) (hx : xs.length ≤ 30) (qo qs qt c a b : Int) (l : List S33) (z : S33) (p : List S33) (hpe : p = l ++ [z]) (hp : p.length ≤ 6) (hpw : p.Pairwise apart)
    (h3 : ∀ s ∈ l, actM xs s.f0 s.f1 qt = 3) (c1 : c = 1 ↔ actM xs z.f0 z.f1 qt = 1) (c2 : c = 2 ↔ actM xs z.f0 z.f1 qt = 2) (i : Nat) (hi : i < p.length) (k0 : Nat) (hk0 : 100 < k0)
    (next : ∀ k, k0 ≤ k → laws_FnFollowed.l0 k xs ((i + 1 : Nat) : Int) qo qs qt c a b p = some true) :
    ∀ (n k j : Nat), j + n = i → k0 + n < k → laws_FnFollowed.l1 k xs (i : Int) (j : Int) qo qs qt c a b p = some true := by
  intro n
  induction n with
  | zero =>
    intro k j hj hk
    obtain ⟨k, rfl⟩ : ∃ m, k = m + 1 := ⟨k - 1, by omega⟩
    simp only [laws_FnFollowed.l1]
    have hlen : p.length = l.length + 1 := by rw [hpe]; simp
    rw [if_neg (by omega), if_pos (by omega), if_pos (by omega), rdSite_i p i hi, impl_ActionFor_eq k xs _ _ _ (by omega) (by omega), Option.bind_some, wr (i := (p.length : Int) - 1) (by omega) (by omega), wr (i := (i : Int) + 1) (by omega) (by omega), show (i : Int) + 1 = ((i + 1 : Nat) : Int) by omega, next k (by omega)]
    rw [show (if decM xs p[i].f0 p[i].f1 qt < 0 then (1 : Int) else (rd_T35 xs (decM xs p[i].f0 p[i].f1 qt)).f4) = actM xs p[i].f0 p[i].f1 qt from rfl]
    by_cases hlast : i = l.length
    · have hz : p[i] = z := by subst hpe; simp [hlast]
      rw [if_pos (by omega), if_pos (by omega), hz]
      have e1 : (c == 1) = (actM xs z.f0 z.f1 qt == 1) := by rw [beq_dec, beq_dec]; exact decide_eq_decide.2 c1
      have e2 : (c == 2) = (actM xs z.f0 z.f1 qt == 2) := by rw [beq_dec, beq_dec]; exact decide_eq_decide.2 c2
      rw [e1, e2]; simp
    · have hz : p[i] = l[i]'(by omega) := by subst hpe; exact List.getElem_append_left (by omega)
      have ha : actM xs p[i].f0 p[i].f1 qt = 3 := by rw [hz]; exact h3 _ (List.getElem_mem _)
      rw [if_neg (by omega), if_pos ha, if_neg (by omega)]
  | succ n ih =>
    intro k j hj hk
    obtain ⟨k, rfl⟩ : ∃ m, k = m + 1 := ⟨k - 1, by omega⟩
    simp only [laws_FnFollowed.l1]
    rw [if_pos (by omega), if_pos (by omega), if_pos (by omega), if_pos (by omega), if_pos (by omega), rdSite_i p i hi, rdSite_i p j (by omega), pw_get p hpw i j (by omega) hi, if_neg (by decide), wr (i := (j : Int) + 1) (by omega) (by omega), show (j : Int) + 1 = ((j + 1 : Nat) : Int) by omega]
    exact ih k (j + 1) (by omega) (by omega)
theorem foll_l0 (xs : List S35) (hx : xs.length ≤ 30) (qo qs qt c a b : Int) (hq : isReq qo qs qt = true) (l : List S33) (z : S33) (p : List S33) (hpe : p = l ++ [z]) (hp : p.length ≤ 6) (hpw : p.Pairwise apart)
    (h3 : ∀ s ∈ l, actM xs s.f0 s.f1 qt = 3) (c1 : c = 1 ↔ actM xs z.f0 z.f1 qt = 1) (c2 : c = 2 ↔ actM xs z.f0 z.f1 qt = 2) (hf : folM xs qo qs qt = (c, a, b, p)) (hc : 1 ≤ c ∧ c ≤ 4) :
    ∀ (n k i : Nat), i + n = p.length → 500 + 20 * n < k → laws_FnFollowed.l0 k xs (i : Int) qo qs qt c a b p = some true := by
  intro n
  induction n with
  | zero =>
    intro k i hi hk
    obtain rfl : i = p.length := by omega
    exact foll_end k xs hx qo qs qt hq c a b p hp hf hc (by omega)
  | succ n ih =>
    intro k i hi hk
    obtain ⟨k, rfl⟩ : ∃ m, k = m + 1 := ⟨k - 1, by omega⟩
    simp only [laws_FnFollowed.l0]
    rw [if_pos (by omega)]
    exact foll_l1 xs hx qo qs qt c a b l z p hpe hp hpw h3 c1 c2 i (by omega) (500 + 20 * n + 1) (by omega) (fun k' hk' => ih k' (i + 1) (by omega) (by omega)) i k 0 (by omega) (by omega)
theorem FnFollowed : laws_FnFollowed.Pure := by
  intro l0 _ _ _
  obtain ⟨K, hK⟩ : ∃ K, K = l0.length + 5000 := ⟨_, rfl⟩
  refine ⟨K + 1, ?_⟩
  unfold laws_FnFollowed.f
  simp only [laws_big.f, Option.bind_some]
  by_cases hb : (l0.length : Int) > 1048576
  · rw [if_pos (decide_eq_true hb)]
  · rw [if_neg (by rw [decide_eq_false hb]; decide)]
    obtain ⟨⟨xs, qo, qs, qt⟩, e1, hx⟩ := drawFollow_ok (K + 1) l0 (by omega) (by omega)
    rw [e1, Option.bind_some]
    dsimp only at hx ⊢
    rw [impl_Follow_eq (K + 1) xs qo qs qt (by omega) (by omega), Option.bind_some, impl_req, Option.bind_some, spec_req, Option.bind_some, Option.bind_some, if_neg (by simp)]
    cases hq : isReq qo qs qt
    · have hf : folM xs qo qs qt = (0, 0, 0, []) := by unfold folM; rw [hq]; rfl
      rw [if_neg (by decide), hf]
      rfl
    · rw [if_pos rfl]
      have hf : folM xs qo qs qt = fol xs qt 5 qo qs [] := by unfold folM; rw [if_pos hq]
      have hg := fol_good xs qt ⟨qo, qs⟩ 5 qo qs [] (by simp) (by simp) (by simp) (by simp)
      rw [← hf] at hg
      obtain ⟨⟨c, a, b, p⟩, hfe⟩ : ∃ r, folM xs qo qs qt = r := ⟨_, rfl⟩
      rw [hfe] at hg ⊢
      obtain ⟨hc, l, z, hpe, hp, hpw, hh, h3, c1, c2⟩ := hg
      dsimp only at hc hpe hp c1 c2 ⊢
      rw [← hpe] at hp hpw hh
      have hlen : p.length = l.length + 1 := by rw [hpe]; simp
      have hname : ∃ s, impl_OutcomeName.f c = some s ∧ ¬ s.toList = ([] : List UInt8) := by
        have hcc : c = 1 ∨ c = 2 ∨ c = 3 ∨ c = 4 := by omega
        rcases hcc with rfl | rfl | rfl | rfl
        · exact ⟨_, rfl, by decide +kernel⟩
        · exact ⟨_, rfl, by decide +kernel⟩
        · exact ⟨_, rfl, by decide +kernel⟩
        · exact ⟨_, rfl, by decide +kernel⟩
      obtain ⟨s, hs, hne⟩ := hname
      have h0 : p[0]'(by omega) = ⟨qo, qs⟩ := by
        cases p with
        | nil => simp at hh
        | cons y ys => simpa using hh
      have hr0 : rd_T33 p 0 = ⟨qo, qs⟩ := by
        have := rdSite_i p 0 (by omega)
        rw [h0] at this
        exact this
      rw [hs, Option.bind_some, if_neg hne, if_neg (by omega), if_neg (by omega), if_pos (by omega), hr0]
      simp only [beq_self_eq_true, Bool.not_true, Bool.or_false, laws_FnFollowed.j0, Bool.false_eq_true, if_false]
      exact foll_l0 xs hx qo qs qt c a b hq l z p hpe hp hpw h3 c1 c2 hfe hc p.length K 0 (by omega) (by omega)

end Go.Proofs.Ytacgichgadoddaa.Pure
