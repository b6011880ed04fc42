/- The printed function of the law FnExactIsBefore answers true, for all arguments, under no condition but that each whole number is one of its kind and that each slice has a length that fits. -/
import Derived.Test.YtgcoplikbfdkoaaPFnExactIsBeforex2
namespace Go.Proofs.Ytgcoplikbfdkoaa.Pure
open Go.RowKit Go.Proofs.Ytgcoplikbfdkoaa.PFnExactIsBefore Go.Proofs.YtgcoplikbfdkoaaW.PrintWords Go.Proofs.YtgcoplikbfdkoaaW.PrintLast
set_option linter.unusedVariables false
set_option linter.unusedSimpArgs false
theorem wr {i : Int} (h0 : -9223372036854775808 ≤ i) (h1 : i ≤ 9223372036854775807) : wrap64 i = i := by unfold wrap64; omega
theorem beq_dec (a b : Int) : (a == b) = decide (a = b) := by by_cases h : a = b <;> simp [h]
theorem and_if (p : Prop) [Decidable p] (c : Bool) : (if p then some c else some false) = some (decide p && c) := by
  by_cases h : p <;> simp [h]
theorem or_if (p : Prop) [Decidable p] (c : Bool) : (if p then some true else some c) = some (decide p || c) := by
  by_cases h : p <;> simp [h]
def inR (a b c : Int) : Bool := decide (b ≤ a) && decide (a ≤ c)
def isPat (o s : Int) : Bool := inR o 0 9 && inR s (-1) 9
def isSit (o s : Int) : Bool := inR o 1 9 && inR s 0 9
def mtch (po ps o s : Int) : Bool := isPat po ps && (isSit o s && ((decide (po = 0) || decide (po = o)) && (decide (ps = -1) || decide (ps = s))))
def narr (po ps qo qs : Int) : Bool := isPat po ps && (isPat qo qs && ((decide (qo = 0) || decide (po = qo)) && (decide (qs = -1) || decide (ps = qs))))
def isGra (e po ps k f u : Int) : Bool := inR e 1 5 && (isPat po ps && (inR k 1 4 && (decide (0 ≤ f) && (decide (f ≤ u) && decide (u ≤ 10000)))))
def isLim (e po ps k : Int) : Bool := inR e 0 5 && (isPat po ps && inR k 0 4)
def covr (e po ps k f u : Int) (cl : Bool) (ext o s kind tick : Int) (ck : Bool) : Bool :=
  isGra e po ps k f u && (decide (e = ext) && (decide (k = kind) && (mtch po ps o s && (inR tick f u && (ck || !cl)))))
def isRul (e p po ps s a o b : Int) : Bool :=
  inR e 1 5 && (inR p 1 9 && (isPat po ps && (inR s 0 4 && ((decide (a = 1) || decide (a = 2)) && (decide (o = 0) && decide (b = 0)) || decide (a = 3) && isSit o b))))
def isReq (o s t : Int) : Bool := isSit o s && inR t 1 4
def appl (e p po ps s a o b qo qs qt : Int) : Bool := isRul e p po ps s a o b && (isReq qo qs qt && (mtch po ps qo qs && (decide (s = 0) || decide (s = qt))))
def isLen (e po ps k f u : Int) (cl : Bool) : Bool := isGra e po ps k f u && (decide (po ≠ 0) && (decide (ps ≠ -1) && ((decide (k = 1) || decide (k = 2)) && (decide (u = f + 5) && !cl))))
def isLab (x : Int) : Bool := inR x 0 1022 && decide (Int.tmod x 2 = 0)
def befo (ae ap aa ao ab be bp ba bo bb : Int) : Bool :=
  if ap = bp then (if aa = ba then (if ae = be then (if ao = bo then decide (ab < bb) else decide (ao < bo)) else decide (ae < be)) else decide (aa < ba)) else decide (bp < ap)
def within (e po ps k f u : Int) (cl : Bool) (e' po' ps' k' f' u' : Int) (cl' : Bool) : Bool :=
  isGra e po ps k f u && (isGra e' po' ps' k' f' u' && (decide (e = e') && (decide (k = k') && (narr po ps po' ps' && (decide (f' ≤ f) && (decide (u ≤ u') && (cl || !cl')))))))
theorem spec_befo (a0 a1 a2 a3 a4 a5 a6 a7 b0 b1 b2 b3 b4 b5 b6 b7 : Int) : spec_IsBefore.f a0 a1 a2 a3 a4 a5 a6 a7 b0 b1 b2 b3 b4 b5 b6 b7 = some (befo a0 a1 a5 a6 a7 b0 b1 b5 b6 b7) := by
  unfold spec_IsBefore.f befo
  by_cases h1 : a1 = b1 <;> by_cases h2 : a5 = b5 <;> by_cases h3 : a0 = b0 <;> by_cases h4 : a6 = b6 <;> simp [h1, h2, h3, h4]

theorem or5 (n : Nat) (a b c d e : Int) : cmp_Or_int.f (n + 6) [a, b, c, d, e] = some (if a = 0 then (if b = 0 then (if c = 0 then (if d = 0 then e else d) else c) else b) else a) := by
  have w0 : wrap64 (0 + 1) = 1 := wr (by omega) (by omega)
  have w1 : wrap64 (1 + 1) = 2 := wr (by omega) (by omega)
  have w2 : wrap64 (2 + 1) = 3 := wr (by omega) (by omega)
  have w3 : wrap64 (3 + 1) = 4 := wr (by omega) (by omega)
  have w4 : wrap64 (4 + 1) = 5 := wr (by omega) (by omega)
  unfold cmp_Or_int.f
  simp only [cmp_Or_int.l0, w0, w1, w2, w3, w4]
  by_cases h1 : a = 0 <;> by_cases h2 : b = 0 <;> by_cases h3 : c = 0 <;> by_cases h4 : d = 0 <;> by_cases h5 : e = 0 <;> simp [h1, h2, h3, h4, h5, rd]

theorem cmp_eq (a b : Int) : cmp_Compare_int.f a b = some (if a < b then -1 else if a > b then 1 else 0) := by
  unfold cmp_Compare_int.f cmp_isNaN_int.f; simp only [Option.bind_some, bne_self_eq_false]
  by_cases h1 : a < b <;> by_cases h2 : a > b <;> simp [h1, h2]

theorem impl_befo (n : Nat) (a0 a1 a2 a3 a4 a5 a6 a7 b0 b1 b2 b3 b4 b5 b6 b7 : Int) : impl_IsBefore.f (n + 6) a0 a1 a2 a3 a4 a5 a6 a7 b0 b1 b2 b3 b4 b5 b6 b7 = some (befo a0 a1 a5 a6 a7 b0 b1 b5 b6 b7) := by
  unfold impl_IsBefore.f impl_compareRules.f befo; simp only [cmp_eq, or5, Option.bind_some]
  rcases Int.lt_trichotomy a1 b1 with h | h | h
  · simp [show ¬ b1 < a1 by omega, show b1 > a1 by omega, show ¬ a1 = b1 by omega]
  · subst h
    rcases Int.lt_trichotomy a5 b5 with h | h | h
    · simp [h, show ¬ a5 = b5 by omega]
    · subst h
      rcases Int.lt_trichotomy a0 b0 with h | h | h
      · simp [h, show ¬ a0 = b0 by omega]
      · subst h
        rcases Int.lt_trichotomy a6 b6 with h | h | h
        · simp [h, show ¬ a6 = b6 by omega]
        · subst h
          rcases Int.lt_trichotomy a7 b7 with h | h | h
          · simp [h]
          · subst h; simp
          · simp [h, show ¬ a7 < b7 by omega]
        · simp [h, show ¬ a6 < b6 by omega, show ¬ a6 = b6 by omega]
      · simp [h, show ¬ a0 < b0 by omega, show ¬ a0 = b0 by omega]
    · simp [h, show ¬ a5 < b5 by omega, show ¬ a5 = b5 by omega]
  · simp [h, show ¬ a1 = b1 by omega]


theorem FnExactIsBefore (a0 a1 a2 a3 a4 a5 a6 a7 b0 b1 b2 b3 b4 b5 b6 b7 : Int) (_ : (Lit.int .i64 a0).wf = true) (_ : (Lit.int .i64 a1).wf = true) (_ : (Lit.int .i64 a2).wf = true) (_ : (Lit.int .i64 a3).wf = true) (_ : (Lit.int .i64 a4).wf = true) (_ : (Lit.int .i64 a5).wf = true) (_ : (Lit.int .i64 a6).wf = true) (_ : (Lit.int .i64 a7).wf = true) (_ : (Lit.int .i64 b0).wf = true) (_ : (Lit.int .i64 b1).wf = true) (_ : (Lit.int .i64 b2).wf = true) (_ : (Lit.int .i64 b3).wf = true) (_ : (Lit.int .i64 b4).wf = true) (_ : (Lit.int .i64 b5).wf = true) (_ : (Lit.int .i64 b6).wf = true) (_ : (Lit.int .i64 b7).wf = true) : ∃ k, laws_FnExactIsBefore.f k a0 a1 a2 a3 a4 a5 a6 a7 b0 b1 b2 b3 b4 b5 b6 b7 = some true := by
  refine ⟨6, ?_⟩
  unfold laws_FnExactIsBefore.f laws_toRule.f laws_toPattern.f laws_toSite.f
  simp [impl_befo 0, spec_befo]

end Go.Proofs.Ytgcoplikbfdkoaa.Pure
