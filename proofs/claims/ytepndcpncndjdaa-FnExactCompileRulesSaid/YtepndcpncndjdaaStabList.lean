/- Plain theory of Go's stable sort of a slice (slices.SortStableFunc: insertion sort of blocks of twenty, symMerge, rotate, swapRange): lists alone, and the arrays that the walk speaks of. No program in sight. -/
import Derived.Sort.Statements
namespace Go.Proofs.Stab
open Go.Sort
variable {α : Type} [Inhabited α]
set_option linter.unusedSectionVars false

/-! ### swapRange, rotate -/
theorem get_at (d : Array α) (P : List α) (x : α) (Q : List α) (h : d.toList = P ++ x :: Q) : d[P.length]! = x := by
  have hl : P.length < d.size := by rw [← Array.length_toList, h]; simp
  rw [getElem!_pos d P.length hl, ← Array.getElem_toList]
  simp [h]
theorem swp_list (d : Array α) (P M Q : List α) (x y : α) (h : d.toList = P ++ x :: (M ++ y :: Q)) : (swp d P.length (P.length + 1 + M.length)).toList = P ++ y :: (M ++ x :: Q) := by
  have hx : d[P.length]! = x := get_at d P x _ h
  have hy : d[P.length + 1 + M.length]! = y := by
    have := get_at d (P ++ x :: M) y Q (by rw [h]; simp)
    rw [show (P ++ x :: M).length = P.length + 1 + M.length by simp; omega] at this
    exact this
  unfold swp
  rw [hx, hy, Array.toList_setIfInBounds, Array.toList_setIfInBounds, h]
  rw [List.set_append_right _ _ (by omega), Nat.sub_self, List.set_cons_zero, List.set_append_right _ _ (by omega), show P.length + 1 + M.length - P.length = M.length + 1 by omega, List.set_cons_succ, List.set_append_right _ _ (by omega), Nat.sub_self, List.set_cons_zero]
def swapFrom (d : Array α) (a b : Nat) : Nat → Nat → Array α
  | 0, _ => d
  | n + 1, i => swapFrom (swp d (a + i) (b + i)) a b n (i + 1)
def swapRange (d : Array α) (a b n : Nat) : Array α := swapFrom d a b n 0
theorem swapFrom_list : ∀ (n : Nat) (d : Array α) (a b i : Nat) (P X1 X2 M Y1 Y2 Q : List α), d.toList = P ++ X1 ++ X2 ++ M ++ Y1 ++ Y2 ++ Q → X2.length = n → Y2.length = n → P.length + X1.length = a + i → P.length + X1.length + X2.length + M.length + Y1.length = b + i →
    (swapFrom d a b n i).toList = P ++ X1 ++ Y2 ++ M ++ Y1 ++ X2 ++ Q
  | 0, d, a, b, i, P, X1, X2, M, Y1, Y2, Q, h, h1, h2, h3, h4 => by
    obtain rfl := List.length_eq_zero_iff.1 h1
    obtain rfl := List.length_eq_zero_iff.1 h2
    exact h
  | n + 1, d, a, b, i, P, X1, X2, M, Y1, Y2, Q, h, h1, h2, h3, h4 => by
    match X2, Y2, h1, h2 with
    | x :: X2, y :: Y2, h1, h2 =>
      simp only [List.length_cons] at h1 h2 h4
      have hs := swp_list d (P ++ X1) (X2 ++ M ++ Y1) (Y2 ++ Q) x y (by rw [h]; simp)
      rw [show (P ++ X1).length = a + i by simp; omega, show a + i + 1 + (X2 ++ M ++ Y1).length = b + i by simp; omega] at hs
      have := swapFrom_list n (swp d (a + i) (b + i)) a b (i + 1) P (X1 ++ [y]) X2 M (Y1 ++ [x]) Y2 Q (by rw [hs]; simp) (by omega) (by omega) (by simp; omega) (by simp; omega)
      rw [swapFrom, this]
      simp
theorem swapRange_list (d : Array α) (P X M Y Q : List α) (h : d.toList = P ++ X ++ M ++ Y ++ Q) (hXY : X.length = Y.length) :
    (swapRange d P.length (P.length + X.length + M.length) X.length).toList = P ++ Y ++ M ++ X ++ Q := by
  have := swapFrom_list X.length d P.length (P.length + X.length + M.length) 0 P [] X M [] Y Q (by rw [h]; simp) rfl hXY.symm (by simp) (by simp)
  simpa [swapRange] using this
/-- Go's rotate, from its two counters. -/
def rotLoop (m : Nat) : Nat → Array α → Nat → Nat → Array α
  | 0, d, _, _ => d
  | f + 1, d, i, j => if i = j then swapRange d (m - i) m i else if i > j then rotLoop m f (swapRange d (m - i) m j) (i - j) j else rotLoop m f (swapRange d (m - i) (m + j - i) i) i (j - i)
def rotate (d : Array α) (a m b : Nat) : Array α := rotLoop m (b - a + 1) d (m - a) (b - m)
theorem rotLoop_list : ∀ (f : Nat) (d : Array α) (P X Y Q : List α), d.toList = P ++ X ++ Y ++ Q → 0 < X.length → 0 < Y.length → X.length + Y.length < f →
    (rotLoop (P.length + X.length) f d X.length Y.length).toList = P ++ Y ++ X ++ Q
  | 0, _, _, _, _, _, _, _, _, hf => by omega
  | f + 1, d, P, X, Y, Q, h, hX, hY, hf => by
    rw [rotLoop]
    by_cases e : X.length = Y.length
    · rw [if_pos e, show P.length + X.length - X.length = P.length by omega]
      have := swapRange_list d P X [] Y Q (by rw [h]; simp) e
      simpa using this
    · rw [if_neg e]
      by_cases g : X.length > Y.length
      · rw [if_pos g, show P.length + X.length - X.length = P.length by omega]
        have hx : X = X.take Y.length ++ X.drop Y.length := (List.take_append_drop _ _).symm
        have l1 : (X.take Y.length).length = Y.length := by simp; omega
        have l2 : (X.drop Y.length).length = X.length - Y.length := by simp
        generalize X.take Y.length = X1 at hx l1
        generalize X.drop Y.length = X2 at hx l2
        have hs := swapRange_list d P X1 X2 Y Q (by rw [h, hx]; simp) l1
        rw [l1, l2, show P.length + Y.length + (X.length - Y.length) = P.length + X.length by omega] at hs
        have := rotLoop_list f (swapRange d P.length (P.length + X.length) Y.length) (P ++ Y) X2 X1 Q (by rw [hs]) (by omega) (by omega) (by omega)
        rw [show (P ++ Y).length + X2.length = P.length + X.length by simp; omega, l1, l2] at this
        rw [this, hx]; simp
      · rw [if_neg g, show P.length + X.length - X.length = P.length by omega]
        have hy : Y = Y.take (Y.length - X.length) ++ Y.drop (Y.length - X.length) := (List.take_append_drop _ _).symm
        have l1 : (Y.take (Y.length - X.length)).length = Y.length - X.length := by simp
        have l2 : (Y.drop (Y.length - X.length)).length = X.length := by simp; omega
        generalize Y.take (Y.length - X.length) = Y1 at hy l1
        generalize Y.drop (Y.length - X.length) = Y2 at hy l2
        have hs := swapRange_list d P X Y1 Y2 Q (by rw [h, hy]; simp) l2.symm
        rw [l1, show P.length + X.length + (Y.length - X.length) = P.length + X.length + Y.length - X.length by omega] at hs
        have := rotLoop_list f (swapRange d P.length (P.length + X.length + Y.length - X.length) X.length) P Y2 Y1 (X ++ Q) (by rw [hs]; simp) (by omega) (by omega) (by omega)
        rw [l2, l1] at this
        rw [this, hy]; simp
theorem rotate_list (d : Array α) (P X Y Q : List α) (h : d.toList = P ++ X ++ Y ++ Q) (hX : 0 < X.length) (hY : 0 < Y.length) :
    (rotate d P.length (P.length + X.length) (P.length + X.length + Y.length)).toList = P ++ Y ++ X ++ Q := by
  unfold rotate
  rw [show P.length + X.length - P.length = X.length by omega, show P.length + X.length + Y.length - (P.length + X.length) = Y.length by omega]
  exact rotLoop_list _ d P X Y Q h hX hY (by omega)

/-! ### the merge -/
section
variable (lt : α → α → Bool)
def mrg : List α → List α → List α
  | [], ys => ys
  | x :: xs, [] => x :: xs
  | x :: xs, y :: ys => if lt y x then y :: mrg (x :: xs) ys else x :: mrg xs (y :: ys)
termination_by xs ys => xs.length + ys.length
theorem mrg_nil_left (ys : List α) : mrg lt [] ys = ys := by rw [mrg]
theorem mrg_nil_right (xs : List α) : mrg lt xs [] = xs := by
  cases xs with
  | nil => rw [mrg]
  | cons x xs => rw [mrg]
theorem mrg_cons (x : α) (xs : List α) (y : α) (ys : List α) : mrg lt (x :: xs) (y :: ys) = if lt y x then y :: mrg lt (x :: xs) ys else x :: mrg lt xs (y :: ys) := by rw [mrg]
theorem mrg_len : ∀ xs ys : List α, (mrg lt xs ys).length = xs.length + ys.length
  | [], ys => by rw [mrg_nil_left]; simp
  | x :: xs, [] => by rw [mrg_nil_right]; simp
  | x :: xs, y :: ys => by
    rw [mrg_cons]
    split
    · rw [List.length_cons, mrg_len (x :: xs) ys]; simp only [List.length_cons]; omega
    · rw [List.length_cons, mrg_len xs (y :: ys)]; simp only [List.length_cons]; omega
termination_by xs ys => xs.length + ys.length
theorem mrg_split : ∀ (A1 B1 A2 B2 : List α), (∀ b ∈ B1, ∀ a ∈ A2, lt b a = true) → (∀ a ∈ A1, ∀ b ∈ B2, lt b a = false) → mrg lt (A1 ++ A2) (B1 ++ B2) = mrg lt A1 B1 ++ mrg lt A2 B2
  | [], [], A2, B2, _, _ => by simp [mrg_nil_left]
  | [], y :: B1, [], B2, _, _ => by simp [mrg_nil_left]
  | [], y :: B1, x :: A2, B2, h1, h2 => by
    have hy : lt y x = true := h1 y List.mem_cons_self x List.mem_cons_self
    have ih := mrg_split [] B1 (x :: A2) B2 (fun b hb a ha => h1 b (List.mem_cons_of_mem _ hb) a ha) h2
    simp only [List.nil_append, List.cons_append] at ih ⊢
    rw [mrg_cons, if_pos hy, ih, mrg_nil_left, mrg_nil_left]
    rfl
  | x :: A1, [], A2, [], _, _ => by simp [mrg_nil_right]
  | x :: A1, [], A2, z :: B2, h1, h2 => by
    have hz : ¬ lt z x = true := by rw [h2 x List.mem_cons_self z List.mem_cons_self]; decide
    have ih := mrg_split A1 [] A2 (z :: B2) h1 (fun a ha b hb => h2 a (List.mem_cons_of_mem _ ha) b hb)
    simp only [List.nil_append, List.cons_append] at ih ⊢
    rw [mrg_cons, if_neg hz, ih, mrg_nil_right, mrg_nil_right]
    rfl
  | x :: A1, y :: B1, A2, B2, h1, h2 => by
    simp only [List.cons_append]
    rw [mrg_cons, mrg_cons]
    by_cases h : lt y x = true
    · rw [if_pos h, if_pos h]
      have ih := mrg_split (x :: A1) B1 A2 B2 (fun b hb a ha => h1 b (List.mem_cons_of_mem _ hb) a ha) h2
      simp only [List.cons_append] at ih
      rw [ih]; rfl
    · rw [if_neg h, if_neg h]
      have ih := mrg_split A1 (y :: B1) A2 B2 h1 (fun a ha b hb => h2 a (List.mem_cons_of_mem _ ha) b hb)
      simp only [List.cons_append] at ih
      rw [ih]; rfl
termination_by A1 B1 => A1.length + B1.length
theorem mrg_one_left (x : α) : ∀ (B1 B2 : List α), (∀ b ∈ B1, lt b x = true) → (∀ b ∈ B2, lt b x = false) → mrg lt [x] (B1 ++ B2) = B1 ++ x :: B2 := by
  intro B1 B2 h1 h2
  have := mrg_split lt [] B1 [x] B2 (fun b hb a ha => by rw [List.mem_singleton] at ha; rw [ha]; exact h1 b hb) (fun a ha => by simp at ha)
  rw [List.nil_append] at this
  rw [this]
  have e : mrg lt [x] B2 = x :: B2 := by
    cases B2 with
    | nil => rw [mrg_nil_right]
    | cons z B2 => rw [mrg_cons, if_neg (by rw [h2 z List.mem_cons_self]; decide), mrg_nil_left]
  rw [e, mrg_nil_left]
theorem mrg_one_right (y : α) : ∀ (A1 A2 : List α), (∀ a ∈ A1, lt y a = false) → (∀ a ∈ A2, lt y a = true) → mrg lt (A1 ++ A2) [y] = A1 ++ y :: A2 := by
  intro A1 A2 h1 h2
  have := mrg_split lt A1 [] A2 [y] (fun b hb => by simp at hb) (fun a ha b hb => by rw [List.mem_singleton] at hb; rw [hb]; exact h1 a ha)
  rw [List.nil_append] at this
  rw [this, mrg_nil_right]
  have e : mrg lt A2 [y] = y :: A2 := by
    cases A2 with
    | nil => rw [mrg_nil_left]
    | cons x A2 => rw [mrg_cons, if_pos (h2 x List.mem_cons_self), mrg_nil_right]
  rw [e]

/-! ### the binary search -/
def bsr (p : Nat → Bool) (i j : Nat) : Nat :=
  if _h : i < j then (if p ((i + j) / 2) = true then bsr p ((i + j) / 2 + 1) j else bsr p i ((i + j) / 2)) else i
termination_by j - i
theorem bsr_spec (p : Nat → Bool) : ∀ (n i j : Nat), j - i ≤ n → i ≤ j → (∀ c c', i ≤ c → c ≤ c' → c' < j → p c' = true → p c = true) →
    i ≤ bsr p i j ∧ bsr p i j ≤ j ∧ (∀ c, i ≤ c → c < bsr p i j → p c = true) ∧ (∀ c, bsr p i j ≤ c → c < j → p c = false) := by
  intro n
  induction n with
  | zero =>
    intro i j hn hij hm
    rw [bsr, dif_neg (by omega)]
    exact ⟨Nat.le_refl _, hij, fun c h1 h2 => by omega, fun c h1 h2 => by omega⟩
  | succ n ih =>
    intro i j hn hij hm
    rw [bsr]
    by_cases h : i < j
    · rw [dif_pos h]
      by_cases hp : p ((i + j) / 2) = true
      · rw [if_pos hp]
        obtain ⟨a1, a2, a3, a4⟩ := ih ((i + j) / 2 + 1) j (by omega) (by omega) (fun c c' q1 q2 q3 => hm c c' (by omega) q2 q3)
        refine ⟨by omega, a2, fun c q1 q2 => ?_, a4⟩
        by_cases hc : c ≤ (i + j) / 2
        · exact hm c _ q1 hc (by omega) hp
        · exact a3 c (by omega) q2
      · rw [if_neg hp]
        obtain ⟨a1, a2, a3, a4⟩ := ih i ((i + j) / 2) (by omega) (by omega) (fun c c' q1 q2 q3 => hm c c' q1 q2 (by omega))
        refine ⟨a1, by omega, a3, fun c q1 q2 => ?_⟩
        by_cases hc : c < (i + j) / 2
        · exact a4 c q1 hc
        · rw [Bool.eq_false_iff]
          intro hx
          exact hp (hm _ c (by omega) (by omega) q2 hx)
    · rw [dif_neg h]
      exact ⟨Nat.le_refl _, hij, fun c h1 h2 => by omega, fun c h1 h2 => by omega⟩

/-! ### symMerge -/
/-- 'for k := a; k < e; k++ { swap k, k+1 }', n rounds from k. -/
def shUp : Nat → Array α → Nat → Array α
  | 0, d, _ => d
  | n + 1, d, k => shUp n (swp d k (k + 1)) (k + 1)
/-- 'for k := m; k > i; k-- { swap k, k-1 }', n rounds from k. -/
def shDown : Nat → Array α → Nat → Array α
  | 0, d, _ => d
  | n + 1, d, k => shDown n (swp d k (k - 1)) (k - 1)
theorem shUp_list : ∀ (n : Nat) (d : Array α) (P : List α) (x : α) (B Q : List α), d.toList = P ++ x :: (B ++ Q) → B.length = n → (shUp n d P.length).toList = P ++ B ++ x :: Q
  | 0, d, P, x, B, Q, h, hB => by
    obtain rfl := List.length_eq_zero_iff.1 hB
    rw [shUp, h]; simp
  | n + 1, d, P, x, B, Q, h, hB => by
    match B, hB with
    | y :: B, hB =>
      have hs := swp_list d P [] (B ++ Q) x y (by rw [h]; simp)
      rw [show P.length + 1 + ([] : List α).length = P.length + 1 by simp] at hs
      have := shUp_list n (swp d P.length (P.length + 1)) (P ++ [y]) x B Q (by rw [hs]; simp) (by simpa using hB)
      rw [show (P ++ [y]).length = P.length + 1 by simp] at this
      rw [shUp, this]; simp
theorem swp_comm_list (d : Array α) (P Q : List α) (x y : α) (h : d.toList = P ++ x :: y :: Q) : (swp d (P.length + 1) P.length).toList = P ++ y :: x :: Q := by
  have hx : d[P.length]! = x := get_at d P x _ h
  have hy : d[P.length + 1]! = y := by
    have := get_at d (P ++ [x]) y Q (by rw [h]; simp)
    rw [show (P ++ [x]).length = P.length + 1 by simp] at this
    exact this
  unfold swp
  rw [hx, hy, Array.toList_setIfInBounds, Array.toList_setIfInBounds, h]
  rw [List.set_append_right _ _ (by omega), show P.length + 1 - P.length = 1 by omega, List.set_cons_succ, List.set_cons_zero, List.set_append_right _ _ (by omega), Nat.sub_self, List.set_cons_zero]
theorem shDown_list : ∀ (n : Nat) (d : Array α) (P A : List α) (y : α) (Q : List α), d.toList = P ++ A ++ y :: Q → A.length = n → (shDown n d (P.length + A.length)).toList = P ++ y :: (A ++ Q)
  | 0, d, P, A, y, Q, h, hA => by
    obtain rfl := List.length_eq_zero_iff.1 hA
    rw [shDown, h]; simp
  | n + 1, d, P, A, y, Q, h, hA => by
    obtain ⟨A', x, rfl⟩ : ∃ A' x, A = A' ++ [x] := ⟨A.dropLast, A.getLast (by intro e; rw [e] at hA; simp at hA), (List.dropLast_concat_getLast _).symm⟩
    simp only [List.length_append, List.length_singleton] at hA
    have hs := swp_comm_list d (P ++ A') Q x y (by rw [h]; simp)
    rw [show (P ++ A').length = P.length + A'.length by simp] at hs
    have := shDown_list n (swp d (P.length + A'.length + 1) (P.length + A'.length)) P A' y (x :: Q) hs (by omega)
    rw [shDown, show P.length + (A' ++ [x]).length = P.length + A'.length + 1 by simp [Nat.add_assoc], show P.length + A'.length + 1 - 1 = P.length + A'.length by omega, this]
    simp
def symMerge : Nat → Array α → Nat → Nat → Nat → Array α
  | 0, d, _, _, _ => d
  | f + 1, d, a, m, b =>
    if m - a = 1 then shUp (bsr (fun h => lt d[h]! d[a]!) m b - 1 - a) d a
    else if b - m = 1 then shDown (m - bsr (fun h => !lt d[m]! d[h]!) a m) d m
    else
      let mid := (a + b) / 2
      let n := mid + m
      let start := if m > mid then bsr (fun c => !lt d[n - 1 - c]! d[c]!) (n - b) mid else bsr (fun c => !lt d[n - 1 - c]! d[c]!) a m
      let e := n - start
      let d1 := if start < m ∧ m < e then rotate d start m e else d
      let d2 := if a < start ∧ start < mid then symMerge f d1 a start mid else d1
      if mid < e ∧ e < b then symMerge f d2 mid e b else d2
/-- d[k]! is the element at its place. -/
theorem get_list (d : Array α) (L : List α) (h : d.toList = L) (k : Nat) (hk : k < L.length) : d[k]! = L[k] := by
  have hl : k < d.size := by rw [← Array.length_toList, h]; exact hk
  rw [getElem!_pos d k hl, ← Array.getElem_toList]
  simp [h]
def Asc (L : List α) : Prop := L.Pairwise fun x y => lt y x = false
theorem asc_le {L : List α} (hs : SWO lt) (h : Asc lt L) (i j : Nat) (hij : i ≤ j) (hj : j < L.length) : lt L[j] (L[i]'(by omega)) = false := by
  by_cases e : i = j
  · subst e; exact hs.irrefl _
  · exact List.pairwise_iff_getElem.1 h i j (by omega) hj (by omega)
/-- a strictly less than b, b at most c: a strictly less than c. -/
theorem swo_lt_le {lt : α → α → Bool} (hs : SWO lt) {x y z : α} (h1 : lt x y = true) (h2 : lt z y = false) : lt x z = true := by
  cases h : lt x z
  · have := hs.ntrans x z y h h2
    rw [this] at h1; exact absurd h1 (by decide)
  · rfl
theorem swo_le_lt {lt : α → α → Bool} (hs : SWO lt) {x y z : α} (h1 : lt y x = false) (h2 : lt y z = true) : lt x z = true := by
  cases h : lt x z
  · have := hs.ntrans y x z h1 h
    rw [this] at h2; exact absurd h2 (by decide)
  · rfl
theorem symMerge_list (hs : SWO lt) : ∀ (f : Nat) (d : Array α) (P A B Q : List α), d.toList = P ++ A ++ B ++ Q → 0 < A.length → 0 < B.length → Asc lt A → Asc lt B → A.length + B.length ≤ f →
    (symMerge lt f d P.length (P.length + A.length) (P.length + A.length + B.length)).toList = P ++ mrg lt A B ++ Q
  | 0, d, P, A, B, Q, h, hA, hB, _, _, hf => by omega
  | f + 1, d, P, A, B, Q, h, hA, hB, sA, sB, hf => by
    have gA : ∀ (k : Nat) (hk : k < A.length), d[P.length + k]! = A[k] := by
      intro k hk
      rw [get_list d _ h (P.length + k) (by simp; omega)]
      simp [hk]
    have gB : ∀ (k : Nat) (hk : k < B.length), d[P.length + A.length + k]! = B[k] := by
      intro k hk
      rw [get_list d _ h (P.length + A.length + k) (by simp; omega)]
      rw [List.getElem_append_left (h := by simp; omega), List.getElem_append_right (by simp)]
      simp
    rw [symMerge]
    by_cases c1 : P.length + A.length - P.length = 1
    · rw [if_pos c1]
      obtain ⟨x, rfl⟩ : ∃ x, A = [x] := List.length_eq_one_iff.1 (by omega)
      · skip
        have hx := gA 0 (by simp)
        simp only [Nat.add_zero, List.getElem_cons_zero] at hx
        simp only [List.length_singleton] at gB ⊢
        obtain ⟨b1, b2, b3, b4⟩ := bsr_spec (fun h => lt d[h]! d[P.length]!) (B.length) (P.length + 1) (P.length + 1 + B.length) (by omega) (by omega) (by
          intro c c' q1 q2 q3 q4
          have e1 := gB (c - (P.length + 1)) (by omega)
          have e2 := gB (c' - (P.length + 1)) (by omega)
          rw [show P.length + 1 + (c - (P.length + 1)) = c by omega] at e1
          rw [show P.length + 1 + (c' - (P.length + 1)) = c' by omega] at e2
          try dsimp only at q4 ⊢
          rw [e1]; rw [e2] at q4
          exact swo_le_lt hs (asc_le lt hs sB _ _ (by omega) (by omega)) q4)
        obtain ⟨r, hr⟩ : ∃ r, r = bsr (fun h => lt d[h]! d[P.length]!) (P.length + 1) (P.length + 1 + B.length) := ⟨_, rfl⟩
        rw [← hr] at b1 b2 b3 b4 ⊢
        have hsp : B = B.take (r - (P.length + 1)) ++ B.drop (r - (P.length + 1)) := (List.take_append_drop _ _).symm
        have hlen : (B.take (r - (P.length + 1))).length = r - (P.length + 1) := by simp; omega
        have m1 : ∀ y ∈ B.take (r - (P.length + 1)), lt y x = true := by
          intro y hy
          obtain ⟨k, hk, rfl⟩ := List.getElem_of_mem hy
          rw [hlen] at hk
          have := b3 (P.length + 1 + k) (by omega) (by omega)
          rw [gB k (by omega), hx] at this
          rw [List.getElem_take]; exact this
        have m2 : ∀ y ∈ B.drop (r - (P.length + 1)), lt y x = false := by
          intro y hy
          obtain ⟨k, hk, rfl⟩ := List.getElem_of_mem hy
          rw [List.length_drop] at hk
          have := b4 (P.length + 1 + (r - (P.length + 1) + k)) (by omega) (by omega)
          rw [gB (r - (P.length + 1) + k) (by omega), hx] at this
          rw [List.getElem_drop]; exact this
        generalize B.take (r - (P.length + 1)) = B1 at hsp hlen m1
        generalize B.drop (r - (P.length + 1)) = B2 at hsp m2
        rw [show r - 1 - P.length = r - (P.length + 1) by omega]
        have := shUp_list (r - (P.length + 1)) d P x B1 (B2 ++ Q) (by rw [h, hsp]; simp) hlen
        rw [this, hsp, mrg_one_left lt x B1 B2 m1 m2]
        simp
    · rw [if_neg c1]
      by_cases c2 : P.length + A.length + B.length - (P.length + A.length) = 1
      · rw [if_pos c2]
        obtain ⟨y, rfl⟩ : ∃ y, B = [y] := List.length_eq_one_iff.1 (by omega)
        · skip
          have hy := gB 0 (by simp)
          simp only [Nat.add_zero, List.getElem_cons_zero] at hy
          obtain ⟨b1, b2, b3, b4⟩ := bsr_spec (fun h => !lt d[P.length + A.length]! d[h]!) (A.length) P.length (P.length + A.length) (by omega) (by omega) (by
            intro c c' q1 q2 q3 q4
            have e1 := gA (c - P.length) (by omega)
            have e2 := gA (c' - P.length) (by omega)
            rw [show P.length + (c - P.length) = c by omega] at e1
            rw [show P.length + (c' - P.length) = c' by omega] at e2
            try dsimp only at q4 ⊢
            rw [Bool.not_eq_true'] at q4 ⊢
            rw [e1]; rw [e2] at q4
            exact hs.ntrans _ _ _ q4 (asc_le lt hs sA _ _ (by omega) (by omega)))
          obtain ⟨r, hr⟩ : ∃ r, r = bsr (fun h => !lt d[P.length + A.length]! d[h]!) P.length (P.length + A.length) := ⟨_, rfl⟩
          rw [← hr] at b1 b2 b3 b4 ⊢
          have hsp : A = A.take (r - P.length) ++ A.drop (r - P.length) := (List.take_append_drop _ _).symm
          have hlen : (A.take (r - P.length)).length = r - P.length := by simp; omega
          have hlen2 : (A.drop (r - P.length)).length = A.length - (r - P.length) := by simp
          have m1 : ∀ a ∈ A.take (r - P.length), lt y a = false := by
            intro a ha
            obtain ⟨k, hk, rfl⟩ := List.getElem_of_mem ha
            rw [hlen] at hk
            have := b3 (P.length + k) (by omega) (by omega)
            rw [gA k (by omega), hy, Bool.not_eq_true'] at this
            rw [List.getElem_take]; exact this
          have m2 : ∀ a ∈ A.drop (r - P.length), lt y a = true := by
            intro a ha
            obtain ⟨k, hk, rfl⟩ := List.getElem_of_mem ha
            rw [List.length_drop] at hk
            have := b4 (P.length + (r - P.length + k)) (by omega) (by omega)
            rw [gA (r - P.length + k) (by omega), hy, Bool.not_eq_false'] at this
            rw [List.getElem_drop]; exact this
          have hAl : A.length = r - P.length + (A.length - (r - P.length)) := by omega
          generalize A.take (r - P.length) = A1 at hsp hlen m1
          generalize A.drop (r - P.length) = A2 at hsp hlen2 m2
          have := shDown_list (A.length - (r - P.length)) d (P ++ A1) A2 y Q (by rw [h, hsp]; simp) hlen2
          rw [show (P ++ A1).length + A2.length = P.length + A.length by simp; omega] at this
          rw [show P.length + A.length - r = A.length - (r - P.length) by omega, this, hsp, mrg_one_right lt y A1 A2 m1 m2]
          simp
      · rw [if_neg c2]
        have hA2 : 2 ≤ A.length := by omega
        have hB2 : 2 ≤ B.length := by omega
        obtain ⟨a, ha⟩ : ∃ a, a = P.length := ⟨_, rfl⟩
        obtain ⟨m, hm⟩ : ∃ m, m = P.length + A.length := ⟨_, rfl⟩
        obtain ⟨b, hb⟩ : ∃ b, b = P.length + A.length + B.length := ⟨_, rfl⟩
        obtain ⟨mid, hmid⟩ : ∃ mid, mid = (a + b) / 2 := ⟨_, rfl⟩
        have gA' : ∀ c, a ≤ c → (hc : c < m) → d[c]! = A[c - a]'(by omega) := by
          intro c q1 q2
          have := gA (c - a) (by omega)
          rw [show P.length + (c - a) = c by omega] at this
          exact this
        have gB' : ∀ c, m ≤ c → (hc : c < b) → d[c]! = B[c - m]'(by omega) := by
          intro c q1 q2
          have := gB (c - m) (by omega)
          rw [show P.length + A.length + (c - m) = c by omega] at this
          exact this
        rw [← hb, ← hm, ← ha]
        dsimp only
        rw [← hmid]
        -- the search
        have mono : ∀ lo hi : Nat, a ≤ lo → hi ≤ m → (∀ c, lo ≤ c → c < hi → m ≤ mid + m - 1 - c ∧ mid + m - 1 - c < b) → ∀ c c', lo ≤ c → c ≤ c' → c' < hi → (!lt d[mid + m - 1 - c']! d[c']!) = true → (!lt d[mid + m - 1 - c]! d[c]!) = true := by
          intro lo hi q1 q2 q3 c c' r1 r2 r3 r4
          rw [Bool.not_eq_true'] at r4 ⊢
          have z1 := q3 c (by omega) (by omega)
          have z2 := q3 c' (by omega) (by omega)
          rw [gA' c' (by omega) (by omega), gB' _ z2.1 z2.2] at r4
          rw [gA' c (by omega) (by omega), gB' _ z1.1 z1.2]
          have w1 := asc_le lt hs sA (c - a) (c' - a) (by omega) (by omega)
          have w2 := asc_le lt hs sB (mid + m - 1 - c' - m) (mid + m - 1 - c - m) (by omega) (by omega)
          exact hs.ntrans _ _ _ (hs.ntrans _ _ _ w2 r4) w1
        obtain ⟨start, hst⟩ : ∃ s, s = (if m > mid then bsr (fun c => !lt d[mid + m - 1 - c]! d[c]!) (mid + m - b) mid else bsr (fun c => !lt d[mid + m - 1 - c]! d[c]!) a m) := ⟨_, rfl⟩
        rw [← hst]
        have key : ∃ lo hi, a ≤ lo ∧ hi ≤ m ∧ lo ≤ start ∧ start ≤ hi ∧ (lo = a ∨ lo = mid + m - b) ∧ (hi = m ∧ m ≤ mid ∨ hi = mid ∧ mid < m) ∧ mid + m ≤ lo + b ∧ (∀ c, lo ≤ c → c < hi → m ≤ mid + m - 1 - c ∧ mid + m - 1 - c < b) ∧ (∀ c, lo ≤ c → c < start → lt d[mid + m - 1 - c]! d[c]! = false) ∧ (∀ c, start ≤ c → c < hi → lt d[mid + m - 1 - c]! d[c]! = true) := by
          by_cases g : m > mid
          · rw [if_pos g] at hst
            obtain ⟨b1, b2, b3, b4⟩ := bsr_spec (fun c => !lt d[mid + m - 1 - c]! d[c]!) mid (mid + m - b) mid (by omega) (by omega) (mono _ _ (by omega) (by omega) (fun c q1 q2 => by omega))
            rw [← hst] at b1 b2 b3 b4
            exact ⟨mid + m - b, mid, by omega, by omega, b1, b2, Or.inr rfl, Or.inr ⟨rfl, g⟩, by omega, fun c q1 q2 => by omega, fun c q1 q2 => by simpa using b3 c q1 q2, fun c q1 q2 => by simpa using b4 c q1 q2⟩
          · rw [if_neg g] at hst
            obtain ⟨b1, b2, b3, b4⟩ := bsr_spec (fun c => !lt d[mid + m - 1 - c]! d[c]!) m a m (by omega) (by omega) (mono _ _ (by omega) (by omega) (fun c q1 q2 => by omega))
            rw [← hst] at b1 b2 b3 b4
            exact ⟨a, m, by omega, by omega, b1, b2, Or.inl rfl, Or.inl ⟨rfl, by omega⟩, by omega, fun c q1 q2 => by omega, fun c q1 q2 => by simpa using b3 c q1 q2, fun c q1 q2 => by simpa using b4 c q1 q2⟩
        clear hst mono
        obtain ⟨lo, hi, k1, k2, k3, k4, k5, k6, k7, k8, k9, k10⟩ := key
        obtain ⟨e, he⟩ : ∃ e, e = mid + m - start := ⟨_, rfl⟩
        rw [← he]
        have eb : m ≤ e ∧ e ≤ b := by
          rcases k6 with k6 | k6 <;> rcases k5 with k5 | k5 <;> omega
        have hspA : A = A.take (start - a) ++ A.drop (start - a) := (List.take_append_drop _ _).symm
        have hspB : B = B.take (e - m) ++ B.drop (e - m) := (List.take_append_drop _ _).symm
        have lA1 : (A.take (start - a)).length = start - a := by simp; omega
        have lA2 : (A.drop (start - a)).length = m - start := by simp; omega
        have lB1 : (B.take (e - m)).length = e - m := by simp; omega
        have lB2 : (B.drop (e - m)).length = b - e := by simp; omega
        have x1 : ∀ y ∈ B.take (e - m), ∀ x ∈ A.drop (start - a), lt y x = true := by
          intro y hy x hx
          obtain ⟨i, hi', rfl⟩ := List.getElem_of_mem hy
          obtain ⟨j, hj, rfl⟩ := List.getElem_of_mem hx
          rw [lB1] at hi'
          rw [lA2] at hj
          rw [List.getElem_take, List.getElem_drop]
          have hlt : start < hi := by rcases k6 with k6 | k6 <;> omega
          have q := k10 start (Nat.le_refl _) hlt
          have z := k8 start k3 hlt
          rw [gA' start (by omega) (by omega), gB' _ z.1 z.2] at q
          have w1 := asc_le lt hs sB i (mid + m - 1 - start - m) (by omega) (by omega)
          have w2 := asc_le lt hs sA (start - a) (start - a + j) (by omega) (by omega)
          exact swo_lt_le hs (swo_le_lt hs w1 q) w2
        have x2 : ∀ x ∈ A.take (start - a), ∀ y ∈ B.drop (e - m), lt y x = false := by
          intro x hx y hy
          obtain ⟨i, hi', rfl⟩ := List.getElem_of_mem hx
          obtain ⟨j, hj, rfl⟩ := List.getElem_of_mem hy
          rw [lA1] at hi'
          rw [lB2] at hj
          rw [List.getElem_take, List.getElem_drop]
          have hlo : lo < start := by rcases k5 with k5 | k5 <;> omega
          have q := k9 (start - 1) (by omega) (by omega)
          have z := k8 (start - 1) (by omega) (by omega)
          rw [gA' (start - 1) (by omega) (by omega), gB' _ z.1 z.2] at q
          have w1 := asc_le lt hs sB (mid + m - 1 - (start - 1) - m) (e - m + j) (by omega) (by omega)
          have w2 := asc_le lt hs sA i (start - 1 - a) (by omega) (by omega)
          exact hs.ntrans _ _ _ (hs.ntrans _ _ _ w1 q) w2
        have sA1 : Asc lt (A.take (start - a)) := List.Pairwise.sublist (List.take_sublist _ _) sA
        have sA2 : Asc lt (A.drop (start - a)) := List.Pairwise.sublist (List.drop_sublist _ _) sA
        have sB1 : Asc lt (B.take (e - m)) := List.Pairwise.sublist (List.take_sublist _ _) sB
        have sB2 : Asc lt (B.drop (e - m)) := List.Pairwise.sublist (List.drop_sublist _ _) sB
        have hfin : mrg lt A B = mrg lt (A.take (start - a)) (B.take (e - m)) ++ mrg lt (A.drop (start - a)) (B.drop (e - m)) := by
          have := mrg_split lt _ _ _ _ x1 x2
          rw [← hspA, ← hspB] at this
          exact this
        rw [hfin]
        clear hfin x1 x2 k8 k9 k10 gA gB gA' gB'
        generalize A.take (start - a) = A1 at *
        generalize A.drop (start - a) = A2 at *
        generalize B.take (e - m) = B1 at *
        generalize B.drop (e - m) = B2 at *
        have hd1 : (if start < m ∧ m < e then rotate d start m e else d).toList = P ++ A1 ++ B1 ++ A2 ++ B2 ++ Q := by
          by_cases c : start < m ∧ m < e
          · rw [if_pos c]
            have := rotate_list d (P ++ A1) A2 B1 (B2 ++ Q) (by rw [h, hspA, hspB]; simp) (by omega) (by omega)
            rw [show (P ++ A1).length = start by simp; omega, show start + A2.length = m by omega, show m + B1.length = e by omega] at this
            rw [this]; simp
          · rw [if_neg c, h, hspA, hspB]
            have : A2 = [] ∨ B1 = [] := by
              rcases (show A2.length = 0 ∨ B1.length = 0 by omega) with q | q
              · exact Or.inl (List.length_eq_zero_iff.1 q)
              · exact Or.inr (List.length_eq_zero_iff.1 q)
            rcases this with rfl | rfl <;> simp
        generalize (if start < m ∧ m < e then rotate d start m e else d) = d1 at hd1
        have hd2 : (if a < start ∧ start < mid then symMerge lt f d1 a start mid else d1).toList = P ++ mrg lt A1 B1 ++ A2 ++ B2 ++ Q := by
          by_cases c : a < start ∧ start < mid
          · rw [if_pos c]
            have := symMerge_list hs f d1 P A1 B1 (A2 ++ B2 ++ Q) (by rw [hd1]; simp) (by omega) (by omega) sA1 sB1 (by omega)
            rw [show P.length + A1.length = start by omega, show start + B1.length = mid by omega, ← ha] at this
            rw [this]; simp
          · rw [if_neg c, hd1]
            have : A1 = [] ∨ B1 = [] := by
              rcases (show A1.length = 0 ∨ B1.length = 0 by omega) with q | q
              · exact Or.inl (List.length_eq_zero_iff.1 q)
              · exact Or.inr (List.length_eq_zero_iff.1 q)
            rcases this with rfl | rfl
            · rw [mrg_nil_left]; simp
            · rw [mrg_nil_right]; simp
        generalize (if a < start ∧ start < mid then symMerge lt f d1 a start mid else d1) = d2 at hd2
        have hml : (mrg lt A1 B1).length = A1.length + B1.length := mrg_len lt A1 B1
        by_cases c : mid < e ∧ e < b
        · rw [if_pos c]
          have := symMerge_list hs f d2 (P ++ mrg lt A1 B1) A2 B2 Q (by rw [hd2]) (by omega) (by omega) sA2 sB2 (by omega)
          rw [show (P ++ mrg lt A1 B1).length = mid by simp; omega, show mid + A2.length = e by omega, show e + B2.length = b by omega] at this
          rw [this]; simp
        · rw [if_neg c, hd2]
          have : A2 = [] ∨ B2 = [] := by
            rcases (show A2.length = 0 ∨ B2.length = 0 by omega) with q | q
            · exact Or.inl (List.length_eq_zero_iff.1 q)
            · exact Or.inr (List.length_eq_zero_iff.1 q)
          rcases this with rfl | rfl
          · rw [mrg_nil_left]; simp
          · rw [mrg_nil_right]; simp

/-! ### the insertion sort -/
def insRev (x : α) : List α → List α
  | [] => [x]
  | y :: R => if lt x y then y :: insRev x R else x :: y :: R
def insR (x : α) (S : List α) : List α := (insRev lt x S.reverse).reverse
def isort (L : List α) : List α := L.foldl (fun S x => insR lt x S) []
theorem insInner_list : ∀ (R : List α) (d : Array α) (P : List α) (x : α) (Q : List α), d.toList = P ++ R.reverse ++ x :: Q → (insInner lt P.length (P.length + R.length) d).toList = P ++ (insRev lt x R).reverse ++ Q
  | [], d, P, x, Q, h => by
    have e : insInner lt P.length (P.length + ([] : List α).length) d = d := by
      rw [List.length_nil, Nat.add_zero]
      cases hp : P.length with
      | zero => rfl
      | succ j => rw [insInner, if_neg (by simp)]
    rw [e, h]; simp [insRev]
  | y :: R, d, P, x, Q, h => by
    have hx : d[P.length + R.length + 1]! = x := by
      have := get_at d (P ++ (y :: R).reverse) x Q h
      rw [show (P ++ (y :: R).reverse).length = P.length + R.length + 1 by simp [Nat.add_assoc]] at this
      exact this
    have hy : d[P.length + R.length]! = y := by
      have := get_at d (P ++ R.reverse) y (x :: Q) (by rw [h]; simp)
      rw [show (P ++ R.reverse).length = P.length + R.length by simp] at this
      exact this
    rw [show P.length + (y :: R).length = P.length + R.length + 1 by simp [Nat.add_assoc], insInner, hx, hy]
    by_cases c : lt x y = true
    · rw [if_pos (by rw [c]; simp; omega)]
      have hs := swp_comm_list d (P ++ R.reverse) Q y x (by rw [h]; simp)
      rw [show (P ++ R.reverse).length = P.length + R.length by simp] at hs
      have := insInner_list R (swp d (P.length + R.length + 1) (P.length + R.length)) P x (y :: Q) hs
      rw [this, insRev, if_pos c]
      simp
    · rw [if_neg (by intro hh; rw [Bool.and_eq_true] at hh; exact c hh.2), h, insRev, if_neg c]
      simp
theorem insOuter_list : ∀ (X : List α) (d : Array α) (P S Q : List α), d.toList = P ++ S ++ X ++ Q → (insOuter lt P.length (P.length + S.length + X.length) (P.length + S.length) d).toList = P ++ X.foldl (fun S x => insR lt x S) S ++ Q
  | [], d, P, S, Q, h => by
    rw [insOuter, if_neg (by simp), h]; simp
  | x :: X, d, P, S, Q, h => by
    rw [insOuter, if_pos (by simp)]
    have h1 := insInner_list lt S.reverse d P x (X ++ Q) (by rw [h]; simp)
    rw [List.length_reverse] at h1
    have h2 := insOuter_list X (insInner lt P.length (P.length + S.length) d) P (insR lt x S) Q (by rw [h1]; unfold insR; simp)
    have hl : (insR lt x S).length = S.length + 1 := by
      have e1 := congrArg List.length h1
      have e2 : (insInner lt P.length (P.length + S.length) d).toList.length = d.toList.length := insInner_len _ _ _
      rw [e2, h] at e1
      unfold insR
      simp at e1 ⊢; omega
    rw [hl] at h2
    rw [show P.length + (S.length + 1) + X.length = P.length + S.length + (x :: X).length by simp; omega, show P.length + (S.length + 1) = P.length + S.length + 1 by omega] at h2
    rw [h2]; rfl
where
  insInner_len : ∀ (a j : Nat) (d : Array α), (insInner lt a j d).toList.length = d.toList.length
    | a, 0, d => rfl
    | a, j + 1, d => by
      rw [insInner]
      split
      · rw [insInner_len a j]; unfold swp; simp
      · rfl
theorem insertionSort_list (d : Array α) (P X Q : List α) (h : d.toList = P ++ X ++ Q) : (insertionSort lt d P.length (P.length + X.length)).toList = P ++ isort lt X ++ Q := by
  unfold insertionSort
  match X, h with
  | [], h => rw [insOuter, if_neg (by simp), h]; simp [isort]
  | x :: X, h =>
    have := insOuter_list lt X d P [x] Q (by rw [h]; simp)
    rw [show P.length + [x].length + X.length = P.length + (x :: X).length by simp; omega, show P.length + [x].length = P.length + 1 by simp] at this
    rw [this]
    unfold isort
    rw [List.foldl_cons]
    rfl
theorem insRev_len (x : α) : ∀ R : List α, (insRev lt x R).length = R.length + 1
  | [] => rfl
  | y :: R => by
    rw [insRev]
    split
    · rw [List.length_cons, insRev_len x R]; simp
    · simp
theorem insR_len (x : α) (S : List α) : (insR lt x S).length = S.length + 1 := by
  unfold insR; rw [List.length_reverse, insRev_len, List.length_reverse]
theorem foldl_len : ∀ (X S : List α), (X.foldl (fun S x => insR lt x S) S).length = S.length + X.length
  | [], S => by simp
  | x :: X, S => by rw [List.foldl_cons, foldl_len X, insR_len]; simp only [List.length_cons]; omega
theorem isort_len (X : List α) : (isort lt X).length = X.length := by unfold isort; rw [foldl_len]; simp
theorem insRev_split (x : α) : ∀ (R2 R1 : List α), (∀ s ∈ R2, lt x s = true) → (∀ s ∈ R1, lt x s = false) → insRev lt x (R2 ++ R1) = R2 ++ x :: R1
  | [], R1, _, h1 => by
    cases R1 with
    | nil => rfl
    | cons y R1 => rw [List.nil_append, insRev, if_neg (by rw [h1 y List.mem_cons_self]; decide)]; rfl
  | y :: R2, R1, h2, h1 => by
    rw [List.cons_append, insRev, if_pos (h2 y List.mem_cons_self), insRev_split x R2 R1 (fun s hs => h2 s (List.mem_cons_of_mem _ hs)) h1]; rfl
theorem insR_split (x : α) (S1 S2 : List α) (h1 : ∀ s ∈ S1, lt x s = false) (h2 : ∀ s ∈ S2, lt x s = true) : insR lt x (S1 ++ S2) = S1 ++ x :: S2 := by
  unfold insR
  rw [List.reverse_append, insRev_split lt x S2.reverse S1.reverse (fun s hs => h2 s (by simpa using hs)) (fun s hs => h1 s (by simpa using hs))]
  simp
theorem asc_split (hs : SWO lt) (x : α) : ∀ S : List α, Asc lt S → ∃ S1 S2, S = S1 ++ S2 ∧ (∀ s ∈ S1, lt x s = false) ∧ (∀ s ∈ S2, lt x s = true)
  | [], _ => ⟨[], [], rfl, by simp, by simp⟩
  | s :: S, h => by
    unfold Asc at h
    rw [List.pairwise_cons] at h
    cases c : lt x s
    · obtain ⟨S1, S2, e, h1, h2⟩ := asc_split hs x S h.2
      refine ⟨s :: S1, S2, by rw [e]; rfl, fun y hy => ?_, h2⟩
      rcases List.mem_cons.1 hy with rfl | hy
      · exact c
      · exact h1 y hy
    · refine ⟨[], s :: S, rfl, by simp, fun y hy => ?_⟩
      rcases List.mem_cons.1 hy with rfl | hy
      · exact c
      · exact swo_lt_le hs c (h.1 y hy)
theorem lt_asym (hs : SWO lt) {x y : α} (h : lt x y = true) : lt y x = false := by
  cases c : lt y x
  · rfl
  · have := hs.trans x y x h c
    rw [hs.irrefl] at this; exact absurd this (by decide)
theorem insR_asc (hs : SWO lt) (x : α) (S : List α) (h : Asc lt S) : Asc lt (insR lt x S) := by
  obtain ⟨S1, S2, rfl, h1, h2⟩ := asc_split lt hs x S h
  rw [insR_split lt x S1 S2 h1 h2]
  unfold Asc at h ⊢
  rw [List.pairwise_append] at h ⊢
  refine ⟨h.1, List.pairwise_cons.2 ⟨fun y hy => lt_asym lt hs (h2 y hy), h.2.1⟩, fun a ha b hb => ?_⟩
  rcases List.mem_cons.1 hb with rfl | hb
  · exact h1 a ha
  · exact h.2.2 a ha b hb
theorem mrg_mem : ∀ (xs ys : List α) (z : α), z ∈ mrg lt xs ys → z ∈ xs ∨ z ∈ ys
  | [], ys, z, h => by rw [mrg_nil_left] at h; exact Or.inr h
  | x :: xs, [], z, h => by rw [mrg_nil_right] at h; exact Or.inl h
  | x :: xs, y :: ys, z, h => by
    rw [mrg_cons] at h
    split at h
    · rcases List.mem_cons.1 h with rfl | h
      · exact Or.inr List.mem_cons_self
      · rcases mrg_mem (x :: xs) ys z h with h | h
        · exact Or.inl h
        · exact Or.inr (List.mem_cons_of_mem _ h)
    · rcases List.mem_cons.1 h with rfl | h
      · exact Or.inl List.mem_cons_self
      · rcases mrg_mem xs (y :: ys) z h with h | h
        · exact Or.inl (List.mem_cons_of_mem _ h)
        · exact Or.inr h
termination_by xs ys => xs.length + ys.length
theorem mrg_ins (hs : SWO lt) (x : α) (A B : List α) (hA : Asc lt A) (hB : Asc lt B) : mrg lt A (insR lt x B) = insR lt x (mrg lt A B) := by
  obtain ⟨A1, A2, rfl, a1, a2⟩ := asc_split lt hs x A hA
  obtain ⟨B1, B2, rfl, b1, b2⟩ := asc_split lt hs x B hB
  have c1 : ∀ b ∈ B1, ∀ a ∈ A2, lt b a = true := fun b hb a ha => swo_le_lt hs (b1 b hb) (a2 a ha)
  have c2 : ∀ a ∈ A1, ∀ b ∈ B2, lt b a = false := fun a ha b hb => lt_asym lt hs (swo_le_lt hs (a1 a ha) (b2 b hb))
  rw [insR_split lt x B1 B2 b1 b2, mrg_split lt A1 B1 A2 B2 c1 c2, insR_split lt x _ _ (fun s h => (mrg_mem lt _ _ _ h).elim (a1 s) (b1 s)) (fun s h => (mrg_mem lt _ _ _ h).elim (a2 s) (b2 s)),
    mrg_split lt A1 B1 A2 (x :: B2) c1 (fun a ha b hb => (List.mem_cons.1 hb).elim (fun e => e ▸ a1 a ha) (c2 a ha b))]
  congr 1
  cases A2 with
  | nil => rw [mrg_nil_left, mrg_nil_left]
  | cons a A2 => rw [mrg_cons, if_pos (a2 a List.mem_cons_self)]
theorem mrg_fold (hs : SWO lt) : ∀ (Y A B : List α), Asc lt A → Asc lt B → mrg lt A (Y.foldl (fun S x => insR lt x S) B) = Y.foldl (fun S x => insR lt x S) (mrg lt A B)
  | [], A, B, _, _ => rfl
  | y :: Y, A, B, hA, hB => by
    rw [List.foldl_cons, List.foldl_cons, mrg_fold hs Y A (insR lt y B) hA (insR_asc lt hs y B hB), mrg_ins lt hs y A B hA hB]
theorem fold_asc (hs : SWO lt) : ∀ (Y B : List α), Asc lt B → Asc lt (Y.foldl (fun S x => insR lt x S) B)
  | [], B, h => h
  | y :: Y, B, h => by rw [List.foldl_cons]; exact fold_asc hs Y _ (insR_asc lt hs y B h)
theorem isort_asc (hs : SWO lt) (X : List α) : Asc lt (isort lt X) := fold_asc lt hs X [] List.Pairwise.nil
theorem mrg_isort (hs : SWO lt) (X Y : List α) : mrg lt (isort lt X) (isort lt Y) = isort lt (X ++ Y) := by
  show mrg lt (isort lt X) (Y.foldl (fun S x => insR lt x S) []) = (X ++ Y).foldl (fun S x => insR lt x S) []
  rw [mrg_fold lt hs Y _ [] (isort_asc lt hs X) List.Pairwise.nil, mrg_nil_right, List.foldl_append]
  rfl

/-! ### stable -/
def blkLoop (s n : Nat) : Nat → Array α → Nat → Array α
  | 0, d, _ => d
  | f + 1, d, a => if a + s ≤ n then blkLoop s n f (insertionSort lt d a (a + s)) (a + s) else insertionSort lt d a n
def passLoop (s n : Nat) : Nat → Array α → Nat → Array α
  | 0, d, _ => d
  | f + 1, d, a => if a + 2 * s ≤ n then passLoop s n f (symMerge lt (n + 1) d a (a + s) (a + 2 * s)) (a + 2 * s) else if a + s < n then symMerge lt (n + 1) d a (a + s) n else d
def mergeLoop (n : Nat) : Nat → Array α → Nat → Array α
  | 0, d, _ => d
  | f + 1, d, s => if s < n then mergeLoop n f (passLoop lt s n (n + 1) d 0) (2 * s) else d
def stable (d : Array α) (n : Nat) : Array α := mergeLoop lt n (n + 1) (blkLoop lt 20 n (n + 1) d 0) 20
def blocksL (s : Nat) : Nat → List α → List α
  | 0, L => isort lt L
  | f + 1, L => if s ≤ L.length then isort lt (L.take s) ++ blocksL s f (L.drop s) else isort lt L
theorem isort_nil : isort lt ([] : List α) = [] := rfl
theorem blocksL_fuel (s : Nat) (h0 : 0 < s) : ∀ (f g : Nat) (L : List α), L.length < f → L.length < g → blocksL lt s f L = blocksL lt s g L
  | 0, g, L, hf, hg => by omega
  | f + 1, 0, L, hf, hg => by omega
  | f + 1, g + 1, L, hf, hg => by
    rw [blocksL, blocksL]
    by_cases c : s ≤ L.length
    · rw [if_pos c, if_pos c, blocksL_fuel s h0 f g (L.drop s) (by simp; omega) (by simp; omega)]
    · rw [if_neg c, if_neg c]
theorem blkLoop_list (s : Nat) (h0 : 0 < s) : ∀ (f : Nat) (d : Array α) (P X : List α), d.toList = P ++ X → X.length < f → (blkLoop lt s (P.length + X.length) f d P.length).toList = P ++ blocksL lt s f X
  | 0, d, P, X, h, hf => by omega
  | f + 1, d, P, X, h, hf => by
    rw [blkLoop, blocksL]
    by_cases c : s ≤ X.length
    · rw [if_pos (by omega), if_pos c]
      have hx : X = X.take s ++ X.drop s := (List.take_append_drop _ _).symm
      have l1 : (X.take s).length = s := by simp; omega
      have l2 : (X.drop s).length = X.length - s := by simp
      generalize X.take s = X1 at hx l1
      generalize X.drop s = X2 at hx l2
      have h1 := insertionSort_list lt d P X1 X2 (by rw [h, hx]; simp)
      rw [l1] at h1
      have := blkLoop_list s h0 f (insertionSort lt d P.length (P.length + s)) (P ++ isort lt X1) X2 h1 (by omega)
      rw [show (P ++ isort lt X1).length = P.length + s by simp [isort_len, l1], show P.length + s + X2.length = P.length + X.length by omega] at this
      rw [this]; simp
    · rw [if_neg (by omega), if_neg c]
      have h1 := insertionSort_list lt d P X [] (by rw [h]; simp)
      rw [h1]; simp
theorem passLoop_list (hs : SWO lt) (s : Nat) (h0 : 0 < s) (N : Nat) : ∀ (f g : Nat) (d : Array α) (P X : List α), d.toList = P ++ blocksL lt s g X → X.length < g → X.length < f → P.length + X.length = N →
    (passLoop lt s N f d P.length).toList = P ++ blocksL lt (2 * s) f X
  | 0, g, d, P, X, h, hg, hf, hN => by omega
  | f + 1, 0, d, P, X, h, hg, hf, hN => by omega
  | f + 1, g + 1, d, P, X, h, hg, hf, hN => by
    rw [passLoop, blocksL]
    by_cases c : 2 * s ≤ X.length
    · rw [if_pos (by omega), if_pos c]
      rw [blocksL, if_pos (by omega)] at h
      match g, hg with
      | 0, hg => omega
      | g + 1, hg =>
        rw [blocksL, if_pos (by simp; omega)] at h
        have l1 : (X.take s).length = s := by simp; omega
        have l2 : ((X.drop s).take s).length = s := by simp; omega
        have h1 := symMerge_list lt hs (N + 1) d P (isort lt (X.take s)) (isort lt ((X.drop s).take s)) (blocksL lt s g ((X.drop s).drop s)) (by rw [h]; simp) (by rw [isort_len]; omega) (by rw [isort_len]; omega) (isort_asc lt hs _) (isort_asc lt hs _) (by rw [isort_len, isort_len]; omega)
        rw [isort_len, isort_len, l1, l2, mrg_isort lt hs, show P.length + s + s = P.length + 2 * s by omega] at h1
        have e : X.take s ++ (X.drop s).take s = X.take (2 * s) := by rw [show 2 * s = s + s by omega, List.take_add]
        rw [e, List.drop_drop, show s + s = 2 * s by omega] at h1
        have := passLoop_list hs s h0 N f g (symMerge lt (N + 1) d P.length (P.length + s) (P.length + 2 * s)) (P ++ isort lt (X.take (2 * s))) (X.drop (2 * s)) h1 (by simp; omega) (by simp; omega) (by simp [isort_len]; omega)
        rw [show (P ++ isort lt (X.take (2 * s))).length = P.length + 2 * s by simp [isort_len]; omega] at this
        rw [this]; simp
    · rw [if_neg (by omega), if_neg c]
      by_cases c2 : s < X.length
      · rw [if_pos (by omega)]
        rw [blocksL, if_pos (by omega)] at h
        have e : blocksL lt s g (X.drop s) = isort lt (X.drop s) := by
          cases g with
          | zero => rfl
          | succ g => rw [blocksL, if_neg (by simp; omega)]
        rw [e] at h
        have h1 := symMerge_list lt hs (N + 1) d P (isort lt (X.take s)) (isort lt (X.drop s)) [] (by rw [h]; simp) (by rw [isort_len]; simp; omega) (by rw [isort_len]; simp; omega) (isort_asc lt hs _) (isort_asc lt hs _) (by rw [isort_len, isort_len]; simp; omega)
        rw [isort_len, isort_len, mrg_isort lt hs, List.take_append_drop, show (X.take s).length = s by simp; omega, show P.length + s + (X.drop s).length = N by simp; omega] at h1
        rw [h1]; simp
      · rw [if_neg (by omega), h, blocksL]
        by_cases c3 : s ≤ X.length
        · rw [if_pos c3, show X.take s = X from List.take_of_length_le (by omega), show X.drop s = [] from List.drop_of_length_le (by omega)]
          have e : blocksL lt s g ([] : List α) = [] := by
            cases g with
            | zero => rfl
            | succ g => rw [blocksL, if_neg (by simp; omega)]; rfl
          rw [e]; simp
        · rw [if_neg c3]
theorem mergeLoop_list (hs : SWO lt) (X : List α) : ∀ (f : Nat) (d : Array α) (s : Nat), 0 < s → d.toList = blocksL lt s (X.length + 1) X → X.length < s + f → (mergeLoop lt X.length f d s).toList = isort lt X
  | 0, d, s, h0, h, hf => by
    rw [mergeLoop, h, blocksL, if_neg (by omega)]
  | f + 1, d, s, h0, h, hf => by
    rw [mergeLoop]
    by_cases c : s < X.length
    · rw [if_pos c]
      have := passLoop_list lt hs s h0 X.length (X.length + 1) (X.length + 1) d [] X (by rw [h]; rfl) (by omega) (by omega) (by simp)
      rw [List.length_nil] at this
      exact mergeLoop_list hs X f _ (2 * s) (by omega) (by rw [this]; rfl) (by omega)
    · rw [if_neg c, h, blocksL]
      by_cases c3 : s ≤ X.length
      · have e : blocksL lt s X.length ([] : List α) = [] := by
          cases X.length with
          | zero => rfl
          | succ g => rw [blocksL, if_neg (by simp; omega)]; rfl
        rw [if_pos c3, show X.take s = X from List.take_of_length_le (by omega), show X.drop s = [] from List.drop_of_length_le (by omega), e]
        simp
      · rw [if_neg c3]
/-- Go's stable sort is the insertion of each element behind all that do not come after it. -/
theorem stable_list (hs : SWO lt) (d : Array α) : (stable lt d d.size).toList = isort lt d.toList := by
  unfold stable
  have h1 := blkLoop_list lt 20 (by omega) (d.size + 1) d [] d.toList (by simp) (by simp)
  rw [List.length_nil, Nat.zero_add, Array.length_toList] at h1
  have := mergeLoop_list lt hs d.toList (d.size + 1) (blkLoop lt 20 d.size (d.size + 1) d 0) 20 (by omega) (by rw [h1]; simp) (by simp; omega)
  rw [Array.length_toList] at this
  exact this
end
/-! ### sizes -/
theorem size_swapFrom (a b : Nat) : ∀ (n i : Nat) (d : Array α), (swapFrom d a b n i).size = d.size
  | 0, _, d => rfl
  | n + 1, i, d => by rw [swapFrom, size_swapFrom a b n]; simp [swp]
theorem size_swapRange (d : Array α) (a b n : Nat) : (swapRange d a b n).size = d.size := size_swapFrom a b n 0 d
theorem size_rotLoop (m : Nat) : ∀ (f i j : Nat) (d : Array α), (rotLoop m f d i j).size = d.size
  | 0, _, _, d => rfl
  | f + 1, i, j, d => by
    rw [rotLoop]
    split
    · rw [size_swapRange]
    · split
      · rw [size_rotLoop m f, size_swapRange]
      · rw [size_rotLoop m f, size_swapRange]
theorem size_rotate (d : Array α) (a m b : Nat) : (rotate d a m b).size = d.size := size_rotLoop m _ _ _ d
theorem size_shUp : ∀ (n k : Nat) (d : Array α), (shUp n d k).size = d.size
  | 0, _, d => rfl
  | n + 1, k, d => by rw [shUp, size_shUp n]; simp [swp]
theorem size_shDown : ∀ (n k : Nat) (d : Array α), (shDown n d k).size = d.size
  | 0, _, d => rfl
  | n + 1, k, d => by rw [shDown, size_shDown n]; simp [swp]
theorem size_symMerge (lt : α → α → Bool) : ∀ (f a m b : Nat) (d : Array α), (symMerge lt f d a m b).size = d.size
  | 0, _, _, _, d => rfl
  | f + 1, a, m, b, d => by
    rw [symMerge]
    split
    · exact size_shUp _ _ _
    · split
      · exact size_shDown _ _ _
      · simp only []
        split <;> split <;> split <;> split <;> simp only [size_symMerge lt f, size_rotate]
theorem bsr_ge (p : Nat → Bool) : ∀ (n i j : Nat), j - i ≤ n → i ≤ j → i ≤ bsr p i j ∧ bsr p i j ≤ j
  | 0, i, j, h, hij => by rw [bsr, dif_neg (by omega)]; omega
  | n + 1, i, j, h, hij => by
    rw [bsr]
    split
    · split
      · have := bsr_ge p n ((i + j) / 2 + 1) j (by omega) (by omega); omega
      · have := bsr_ge p n i ((i + j) / 2) (by omega) (by omega); omega
    · omega
theorem bsr_up (p : Nat → Bool) (i j h : Nat) (hh : h = (i + j) / 2) (hij : i < j) (hp : p h = true) : bsr p i j = bsr p (h + 1) j := by
  subst hh; rw [bsr, dif_pos hij, if_pos hp]
theorem bsr_dn (p : Nat → Bool) (i j h : Nat) (hh : h = (i + j) / 2) (hij : i < j) (hp : p h = false) : bsr p i j = bsr p i h := by
  subst hh; rw [bsr, dif_pos hij, if_neg (by rw [hp]; decide)]
theorem symMerge_one (lt : α → α → Bool) (f : Nat) (d : Array α) (a m b : Nat) (h1 : m - a = 1) : symMerge lt (f + 1) d a m b = shUp (bsr (fun h => lt d[h]! d[a]!) m b - 1 - a) d a := by
  rw [symMerge, if_pos h1]
theorem symMerge_two (lt : α → α → Bool) (f : Nat) (d : Array α) (a m b : Nat) (h1 : ¬ m - a = 1) (h2 : b - m = 1) : symMerge lt (f + 1) d a m b = shDown (m - bsr (fun h => !lt d[m]! d[h]!) a m) d m := by
  rw [symMerge, if_neg h1, if_pos h2]
theorem symMerge_go (lt : α → α → Bool) (f : Nat) (d : Array α) (a m b : Nat) (h1 : ¬ m - a = 1) (h2 : ¬ b - m = 1) (mid n lo hi start e : Nat) (hm : mid = (a + b) / 2) (hn : n = mid + m)
    (hlo : lo = if m > mid then n - b else a) (hhi : hi = if m > mid then mid else m) (hst : start = bsr (fun c => !lt d[n - 1 - c]! d[c]!) lo hi) (he : e = n - start) (d1 d2 : Array α)
    (hd1 : d1 = if start < m ∧ m < e then rotate d start m e else d) (hd2 : d2 = if a < start ∧ start < mid then symMerge lt f d1 a start mid else d1) :
    symMerge lt (f + 1) d a m b = if mid < e ∧ e < b then symMerge lt f d2 mid e b else d2 := by
  subst hm hn
  rw [symMerge, if_neg h1, if_neg h2]
  by_cases c : m > (a + b) / 2
  · rw [if_pos c] at hlo hhi
    subst hlo hhi hst he hd1 hd2
    simp only [if_pos c]
  · rw [if_neg c] at hlo hhi
    subst hlo hhi hst he hd1 hd2
    simp only [if_neg c]
end Go.Proofs.Stab
