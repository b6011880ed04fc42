/- Go functions as Lean functions, each with its walk; printed by a program of this session (a scratch copy of print.py that follows nested field addresses and tells a law for the answer true). -/
import Derived.Test.YtilneejgliglhaaQNx0
import Derived.Test.YtilneejgliglhaaQNx12
import Derived.Test.YtilneejgliglhaaQNx16
import Derived.Test.YtilneejgliglhaaQNx18
import Derived.Test.YtilneejgliglhaaQNx19
import Derived.Test.YtilneejgliglhaaQNx21
import Derived.Test.YtilneejgliglhaaQNx22
import Derived.Test.YtilneejgliglhaaQNx29
import Derived.Test.YtilneejgliglhaaQNx34
import Derived.Test.YtilneejgliglhaaQNx37
import Derived.Test.YtilneejgliglhaaQNx38
import Derived.Test.YtilneejgliglhaaQNx39
import Derived.Test.YtilneejgliglhaaQNx40
import Derived.Test.YtilneejgliglhaaQNx44
import Derived.Test.YtilneejgliglhaaQNxM0
import Derived.Test.YtilneejgliglhaaVInv
import Derived.Test.YtilneejgliglhaaVInvWords
namespace Go.Proofs.Ytilneejgliglhaa.QN
open Go.RowKit Go.Proofs.YtilneejgliglhaaW.PrintWords Go.Proofs.YtilneejgliglhaaW.PrintLast Go.Proofs.YtilneejgliglhaaW.PrintMore Go.Proofs.Ytilneejgliglhaa.Short
attribute [local go_sem] max2_int min2_int max_two min_two max_three min_three max_four min_four   -- for this text's walks alone
set_option linter.unusedVariables false
set_option linter.unusedSimpArgs false

/-! ### laws_FnNarrowed: function 3 -/
mutual
def laws_FnNarrowed.j0 : Nat → List Int → Int → Int → Int → Bool → Bool → Int → Int → Option (Bool)
 | 0, _, _, _, _, _, _, _, _ => none
 | k + 1, x0, x5, x7, x8, x9, x93, x510000, x510001 => if x93 = true then (some false) else ((spec_DrawNarrowGrant.f k x0).bind fun bt519 => ((impl_NarrowGrant.f k bt519.1 bt519.2.1 bt519.2.2.1 bt519.2.2.2.1 bt519.2.2.2.2.1 bt519.2.2.2.2.2.1 bt519.2.2.2.2.2.2.1 bt519.2.2.2.2.2.2.2.1 bt519.2.2.2.2.2.2.2.2).bind fun bt530 => (if bt530.2.2.2.2.2.2.2 = true then ((impl_IsWithinGrants.f k (([(⟨bt530.1, (⟨bt530.2.1, bt530.2.2.1⟩ : S33), bt530.2.2.2.1, bt530.2.2.2.2.1, bt530.2.2.2.2.2.1, bt530.2.2.2.2.2.2.1⟩ : S35)] : List (S35))) (([(⟨bt519.1, (⟨bt519.2.1, bt519.2.2.1⟩ : S33), bt519.2.2.2.1, bt519.2.2.2.2.1, bt519.2.2.2.2.2.1, bt519.2.2.2.2.2.2.1⟩ : S35)] : List (S35)))).bind fun t545 => (if t545 = true then ((impl_Covers.f bt530.1 bt530.2.1 bt530.2.2.1 bt530.2.2.2.1 bt530.2.2.2.2.1 bt530.2.2.2.2.2.1 bt530.2.2.2.2.2.2.1 x5 x510000 x510001 x7 x8 x9).bind fun t546 => ((impl_Covers.f bt519.1 bt519.2.1 bt519.2.2.1 bt519.2.2.2.1 bt519.2.2.2.2.1 bt519.2.2.2.2.2.1 bt519.2.2.2.2.2.2.1 x5 x510000 x510001 x7 x8 x9).bind fun t547 => (if t547 = true then ((impl_MatchSite.f bt519.2.2.2.2.2.2.2.1 bt519.2.2.2.2.2.2.2.2 x510000 x510001).bind fun t548 => (laws_FnNarrowed.j1 k x0 x5 x9 (t546 != t548) x510000 x510001)) else (laws_FnNarrowed.j1 k x0 x5 x9 (t546 != false) x510000 x510001)))) else (laws_FnNarrowed.j1 k x0 x5 x9 true x510000 x510001))) else (laws_FnNarrowed.j1 k x0 x5 x9 false x510000 x510001))))
def laws_FnNarrowed.j1 : Nat → List Int → Int → Bool → Bool → Int → Int → Option (Bool)
 | 0, _, _, _, _, _, _ => none
 | k + 1, x0, x5, x9, x135, x510000, x510001 => if x135 = true then (some false) else ((spec_DrawNarrowTime.f k x0).bind fun bt549 => ((impl_NarrowTime.f bt549.1 bt549.2.1 bt549.2.2.1 bt549.2.2.2.1 bt549.2.2.2.2.1 bt549.2.2.2.2.2.1 bt549.2.2.2.2.2.2.1 bt549.2.2.2.2.2.2.2.1 bt549.2.2.2.2.2.2.2.2).bind fun bt559 => (if bt559.2.2.2.2.2.2.2 = true then ((impl_IsWithinGrants.f k (([(⟨bt559.1, (⟨bt559.2.1, bt559.2.2.1⟩ : S33), bt559.2.2.2.1, bt559.2.2.2.2.1, bt559.2.2.2.2.2.1, bt559.2.2.2.2.2.2.1⟩ : S35)] : List (S35))) (([(⟨bt549.1, (⟨bt549.2.1, bt549.2.2.1⟩ : S33), bt549.2.2.2.1, bt549.2.2.2.2.1, bt549.2.2.2.2.2.1, bt549.2.2.2.2.2.2.1⟩ : S35)] : List (S35)))).bind fun t574 => (if t574 = true then (if bt559.2.2.2.2.1 < bt549.2.2.2.2.2.2.2.1 then (laws_FnNarrowed.j2 k x0 x5 x9 true x510000 x510001) else (laws_FnNarrowed.j2 k x0 x5 x9 (decide (bt559.2.2.2.2.2.1 > bt549.2.2.2.2.2.2.2.2)) x510000 x510001)) else (laws_FnNarrowed.j2 k x0 x5 x9 true x510000 x510001))) else (laws_FnNarrowed.j2 k x0 x5 x9 false x510000 x510001))))
def laws_FnNarrowed.j2 : Nat → List Int → Int → Bool → Bool → Int → Int → Option (Bool)
 | 0, _, _, _, _, _, _ => none
 | k + 1, x0, x5, x9, x169, x510000, x510001 => if x169 = true then (some false) else ((spec_DrawIsWithinGrants.f k x0).bind fun bt575 => ((impl_IsWithinGrants.f k bt575.1 bt575.2).bind fun t581 => (if t581 = true then (laws_FnNarrowed.l0 k x5 x9 bt575.1 bt575.2 0 x510000 x510001) else (some true))))
def laws_FnNarrowed.l0 : Nat → Int → Bool → List (S35) → List (S35) → Int → Int → Int → Option (Bool)
 | 0, _, _, _, _, _, _, _ => none
 | k + 1, x5, x9, x20, x21, x22, x510000, x510001 => if x22 < 22 then (laws_FnNarrowed.l1 k x5 x9 x20 x21 x22 1 x510000 x510001) else (some true)
def laws_FnNarrowed.l1 : Nat → Int → Bool → List (S35) → List (S35) → Int → Int → Int → Int → Option (Bool)
 | 0, _, _, _, _, _, _, _, _ => none
 | k + 1, x5, x9, x20, x21, x22, x23, x510000, x510001 => if x23 ≤ 4 then ((impl_IsAllowed.f k x20 x5 x510000 x510001 x23 x22 x9).bind fun t582 => (if t582 = true then ((impl_IsAllowed.f k x21 x5 x510000 x510001 x23 x22 x9).bind fun t583 => (if t583 = true then (laws_FnNarrowed.l1 k x5 x9 x20 x21 x22 (wrap64 (x23 + 1)) x510000 x510001) else (some false))) else (laws_FnNarrowed.l1 k x5 x9 x20 x21 x22 (wrap64 (x23 + 1)) x510000 x510001))) else (laws_FnNarrowed.l0 k x5 x9 x20 x21 (wrap64 (x22 + 1)) x510000 x510001)
end
def laws_FnNarrowed.f (k : Nat) (l0 : List Int) : Option (Bool) := (laws_big.f l0).bind fun t496 => (if t496 = true then (some true) else ((spec_DrawMayDo.f k l0).bind fun bt497 => ((impl_MayDo.f k bt497.1 bt497.2.1 bt497.2.2.1 bt497.2.2.2.1 bt497.2.2.2.2.1 bt497.2.2.2.2.2.1 bt497.2.2.2.2.2.2.1 bt497.2.2.2.2.2.2.2).bind fun t510 => ((impl_IsAllowed.f k bt497.1 bt497.2.2.1 bt497.2.2.2.1 bt497.2.2.2.2.1 bt497.2.2.2.2.2.1 bt497.2.2.2.2.2.2.1 bt497.2.2.2.2.2.2.2).bind fun t511 => ((spec_IsAllowed.f k bt497.1 bt497.2.2.1 bt497.2.2.2.1 bt497.2.2.2.2.1 bt497.2.2.2.2.2.1 bt497.2.2.2.2.2.2.1 bt497.2.2.2.2.2.2.2).bind fun t512 => (if (t511 != t512) = true then (some false) else (if t510 = true then ((impl_IsAllowed.f k bt497.1 bt497.2.2.1 bt497.2.2.2.1 bt497.2.2.2.2.1 bt497.2.2.2.2.2.1 bt497.2.2.2.2.2.2.1 bt497.2.2.2.2.2.2.2).bind fun t513 => (if t513 = true then ((impl_IsDenied.f k bt497.2.1 bt497.2.2.1 bt497.2.2.2.1 bt497.2.2.2.2.1 bt497.2.2.2.2.2.1).bind fun t514 => (if t514 = true then (laws_FnNarrowed.j0 k l0 bt497.2.2.1 bt497.2.2.2.2.2.1 bt497.2.2.2.2.2.2.1 bt497.2.2.2.2.2.2.2 true bt497.2.2.2.1 bt497.2.2.2.2.1) else ((impl_MayDo.f k bt497.1 ([] : List (S70)) bt497.2.2.1 bt497.2.2.2.1 bt497.2.2.2.2.1 bt497.2.2.2.2.2.1 bt497.2.2.2.2.2.2.1 bt497.2.2.2.2.2.2.2).bind fun t515 => ((impl_IsAllowed.f k bt497.1 bt497.2.2.1 bt497.2.2.2.1 bt497.2.2.2.2.1 bt497.2.2.2.2.2.1 bt497.2.2.2.2.2.2.1 bt497.2.2.2.2.2.2.2).bind fun t516 => (laws_FnNarrowed.j0 k l0 bt497.2.2.1 bt497.2.2.2.2.2.1 bt497.2.2.2.2.2.2.1 bt497.2.2.2.2.2.2.2 (t515 != t516) bt497.2.2.2.1 bt497.2.2.2.2.1))))) else (laws_FnNarrowed.j0 k l0 bt497.2.2.1 bt497.2.2.2.2.2.1 bt497.2.2.2.2.2.2.1 bt497.2.2.2.2.2.2.2 true bt497.2.2.2.1 bt497.2.2.2.2.1))) else ((impl_MayDo.f k bt497.1 ([] : List (S70)) bt497.2.2.1 bt497.2.2.2.1 bt497.2.2.2.2.1 bt497.2.2.2.2.2.1 bt497.2.2.2.2.2.2.1 bt497.2.2.2.2.2.2.2).bind fun t517 => ((impl_IsAllowed.f k bt497.1 bt497.2.2.1 bt497.2.2.2.1 bt497.2.2.2.2.1 bt497.2.2.2.2.2.1 bt497.2.2.2.2.2.2.1 bt497.2.2.2.2.2.2.2).bind fun t518 => (laws_FnNarrowed.j0 k l0 bt497.2.2.1 bt497.2.2.2.2.2.1 bt497.2.2.2.2.2.2.1 bt497.2.2.2.2.2.2.2 (t517 != t518) bt497.2.2.2.1 bt497.2.2.2.2.1))))))))))
def laws_FnNarrowed.T11 : Bool × List (List Nat × List Nat) := (true, [([], []), ([0], [0]), ([1], [1]), ([2, 1], [1, 2]), ([1], [1]), ([4, 1], [1, 4]), ([3, 5, 1, 1], [1, 3, 5]), ([6, 1], [1, 6]), ([7, 6, 1], [1, 7]), ([8], [8]), ([8], [8]), ([8], [8]), ([8], [8]), ([8], [8]), ([8], [8]), ([9, 10, 11, 12, 13, 14, 8, 8], [8, 9, 10, 11, 12, 13, 14]), ([8], [8]), ([8], [8]), ([8], [8]), ([8], [8]), ([8], [8]), ([8], [8]), ([16, 17, 18, 19, 20, 21, 15, 8], [8, 16, 17, 18, 19, 20, 21]), ([22, 22, 8], [8, 22]), ([23], [23]), ([23], [23]), ([24, 25, 23, 23], [23, 24, 25]), ([23, 26, 8], [8, 23, 26]), ([15, 27, 8], [8, 15, 27]), ([8, 28, 1], [1, 8, 28]), ([1, 29], [1, 29])])
def laws_FnNarrowed.B11 : List Nat := [0, 1, 3, 7, 3, 19, 63, 127, 255, 511, 511, 511, 511, 511, 511, 32767, 511, 511, 511, 511, 511, 511, 4194303, 8388607, 16777215, 16777215, 67108863, 134217727, 268435455, 536870911, 1073741823]
theorem laws_FnNarrowed.tab11 : rtab .any (opsOf Try.f3 11) = laws_FnNarrowed.T11 := by kernel_rfl
theorem laws_FnNarrowed.bits11 : waitsOk laws_FnNarrowed.T11.2 laws_FnNarrowed.B11 = true := by kernel_rfl
theorem wanted_un {ops : Array Oper} {o og : Oper} {a : Act} {g : Nat} {u : Bool} {t : Tmp} (hg : o.guard = some (g, u)) (ho : ops[g]? = some og) (hd : og.dst = some t) (hv : a.tmps[t]? = some undef) : Region.wanted o (yielded ops a.tmps) = false := by
 simp [Region.wanted, hg, yielded, ho, hd, hv, undef]
theorem wpLit {P : Program} {Q : Exit → Act → World → Prop} {a : Act} {w : World} {f : Func} {k : Nat} {X : Array Oper} (h : (f.body.bind fun c => opsIn c k) = some X) (hC : (Code.region k X true).wp P Q a w) : (Code.region k (opsOf f k) true).wp P Q a w := by
 unfold opsOf; rw [h]; exact hC
theorem wpUnlit {P : Program} {Q : Exit → Act → World → Prop} {a : Act} {w : World} {f : Func} {k : Nat} {X : Array Oper} (h : (f.body.bind fun c => opsIn c k) = some X) (hC : (Code.region k (opsOf f k) true).wp P Q a w) : (Code.region k X true).wp P Q a w := by
 unfold opsOf at hC; rw [h] at hC; exact hC
set_option maxHeartbeats 8000000 in
set_option maxRecDepth 100000 in
theorem laws_FnNarrowed.arm {kj8 : Nat} {A0 : Option Addr} {c0 : Nat} {l0 : List Int} {r : Bool} {w : World} {t497 : List S35} {t500 : List S70} {t503 t504 t505 t506 t507 : Int} {t508 t510 : Bool} {t519 t520 t521 t522 t523 t524 : Int} {t525 : Bool} {t526 t527 t530 t531 t532 t533 t534 t535 : Int} {t536 t537 : Bool} {gb509 gb528 gb529 gb538 : Nat} {Ao13 Ao14 : Option Addr} {co13 co14 : Nat}
  {u24 u25 u26 u27 u28 u29 u30 u31 u32 u33 u34 u35 u36 u37 u38 u39 u40 u41 u42 u43 u44 u45 u46 u47 u48 u49 u50 u51 u52 u53 u54 u55 u56 u57 u58 u59 u60 u61 u62 u63 u64 u65 u66 u67 u68 u69 u70 u71 u72 u73 u74 u75 u76 u77 u78 u79 u80 u81 u82 u83 u84 u85 u86 u87 u88 u89 u90 u91 u92 u105 u106 u107 u108 u109 u110 u111 u112 u113 u114 u115 u116 u117 u118 u119 u120 u121 u122 u123 u124 u125 u126 u127 u128 u129 u130 u131 u132 u133 u134 u135 u136 u137 u138 u139 u140 u141 u142 u143 u144 u145 u146 u147 u148 u149 u150 u151 u152 u153 u154 u155 u156 u157 u158 u159 u160 u161 u162 u163 u164 u165 u166 u167 u168 u169 u170 u171 u172 u173 u174 u175 u176 u177 u178 u179 u180 u181 u182 u183 u184 u185 u186 u187 u188 u189 u190 u191 u192 u193 u194 u195 u196 u197 u198 u199 u200 u201 u202 u203 : Value} {w54 : World} {k : Nat} {J K' K1 : Act → World → Prop} {Q' : Ending → World → Prop} (HJ8 : Aside0 (kj8 + 1 ≤ k)) (HC44 : Aside0 ((if t537 = true then (impl_IsWithinGrants.f kj8 [⟨t530, ⟨t531, t532⟩, t533, t534, t535, t536⟩] [⟨t519, ⟨t520, t521⟩, t522, t523, t524, t525⟩]).bind fun t545 => if t545 = true then (impl_Covers.f t530 t531 t532 t533 t534 t535 t536 t503 t504 t505 t506 t507 t508).bind fun t546 => (impl_Covers.f t519 t520 t521 t522 t523 t524 t525 t503 t504 t505 t506 t507 t508).bind fun t547 => if t547 = true then (impl_MatchSite.f t526 t527 t504 t505).bind fun t548 => laws_FnNarrowed.j1 kj8 l0 t503 t508 (t546 != t548) t504 t505 else laws_FnNarrowed.j1 kj8 l0 t503 t508 (t546 != false) t504 t505 else laws_FnNarrowed.j1 kj8 l0 t503 t508 true t504 t505 else laws_FnNarrowed.j1 kj8 l0 t503 t508 false t504 t505) = some r))
  (BK509 : Aside0 (w54.heap[gb509]? = some (.cells #[.int .i64 t504, .int .i64 t505] 27 (0, 0)))) (BK528 : Aside0 (w54.heap[gb528]? = some (.cells #[.int .i64 t519, .int .i64 t520, .int .i64 t521, .int .i64 t522, .int .i64 t523, .int .i64 t524, .bool t525] 35 (0, 0)))) (BK529 : Aside0 (w54.heap[gb529]? = some (.cells #[.int .i64 t526, .int .i64 t527] 33 (0, 0)))) (BK538 : Aside0 (w54.heap[gb538]? = some (.cells #[.int .i64 0, .int .i64 0, .int .i64 0, .int .i64 0, .int .i64 0, .int .i64 0, .bool false] 35 (0, 0)))) (HB : Aside0 (Below w.heap.size w w54)) (GE538 : Aside0 (w.heap.size ≤ gb538)) (NB509_538 : Aside0 (gb509 ≠ gb538)) (NB528_538 : Aside0 (gb528 ≠ gb538)) (NB529_538 : Aside0 (gb529 ≠ gb538))
  (hK : ∀ a' w', Met J a' w' → K' a' w') (hJ : ∀ a' w1, (∃ u24 u25 u26 u27 u28 u29 u30 u31 u32 u33 u34 u35 u36 u37 u38 u39 u40 u41 u42 u43 u44 u45 u46 u47 u48 u49 u50 u51 u52 u53 u54 u55 u56 u57 u58 u59 u60 u61 u62 u63 u64 u65 u66 u67 u68 u69 u70 u71 u72 u73 u74 u75 u76 u77 u78 u79 u80 u81 u82 u83 u84 u85 u86 u87 u88 u89 u90 u91 u92 u93 u94 u95 u96 u97 u98 u99 u100 u101 u102 u103 u104 u105 u106 u107 u108 u109 u110 u111 u112 u113 u114 u115 u116 u117 u118 u119 u120 u121 u122 u123 u124 u125 u126 u127 u128 u129 u130 u131 u132 u133 u134 u135 u136 u137 u138 u139 u140 u141 u142 u143 u144 u145 u146 u147 u148 u149 u150 u151 u152 u153 u154 u155 u156 u157 u158 u159 u160 u161 u162 u163 u164 u165 u166 u167 u168 u169 u170 u171 u172 u173 u174 u175 u176 u177 u178 u179 u180 u181 u182 u183 u184 u185 u186 u187 u188 u189 u190 u191 u192 u193 u194 u195 u196 u197 u198 u199 u200 u201 u202 u203, (∃ (kq : Nat) (x135_43 : Bool), u135 = .bool x135_43 ∧ Aside0 (laws_FnNarrowed.j1 kq l0 t503 t508 x135_43 t504 t505 = some r) ∧ Aside0 (kq ≤ kj8) ∧ Aside0 (w1.heap[gb509]? = some (.cells #[.int .i64 t504, .int .i64 t505] 27 (0, 0))) ∧ Aside0 (w1.heap[gb528]? = some (.cells #[.int .i64 t519, .int .i64 t520, .int .i64 t521, .int .i64 t522, .int .i64 t523, .int .i64 t524, .bool t525] 35 (0, 0))) ∧ Aside0 (w1.heap[gb529]? = some (.cells #[.int .i64 t526, .int .i64 t527] 33 (0, 0))) ∧ Aside0 (w1.heap[gb538]? = some (.cells #[.int .i64 t530, .int .i64 t531, .int .i64 t532, .int .i64 t533, .int .i64 t534, .int .i64 t535, .bool t536] 35 (0, 0))) ∧ Aside0 (Below w.heap.size w w1)) ∧ a' = ⟨#[.slice A0 l0.length c0, undef, .bool false, .slice Ao13 t497.length co13, .slice Ao14 t500.length co14, .int .i64 t503, .pointer (some ⟨gb509, 0, none⟩), .int .i64 t506, .int .i64 t507, .bool t508, .bool t510, .pointer (some ⟨gb528, 0, none⟩), .pointer (some ⟨gb529, 0, none⟩), .pointer (some ⟨gb538, 0, none⟩), .bool t537, undef, undef, undef, undef, undef, undef, undef, undef, undef, u24, u25, u26, u27, u28, u29, u30, u31, u32, u33, u34, u35, u36, u37, u38, u39, u40, u41, u42, u43, u44, u45, u46, u47, u48, u49, u50, u51, u52, u53, u54, u55, u56, u57, u58, u59, u60, u61, u62, u63, u64, u65, u66, u67, u68, u69, u70, u71, u72, u73, u74, u75, u76, u77, u78, u79, u80, u81, u82, u83, u84, u85, u86, u87, u88, u89, u90, u91, u92, u93, u94, u95, u96, u97, u98, u99, u100, u101, u102, u103, u104, u105, u106, u107, u108, u109, u110, u111, u112, u113, u114, u115, u116, u117, u118, u119, u120, u121, u122, u123, u124, u125, u126, u127, u128, u129, u130, u131, u132, u133, u134, u135, u136, u137, u138, u139, u140, u141, u142, u143, u144, u145, u146, u147, u148, u149, u150, u151, u152, u153, u154, u155, u156, u157, u158, u159, u160, u161, u162, u163, u164, u165, u166, u167, u168, u169, u170, u171, u172, u173, u174, u175, u176, u177, u178, u179, u180, u181, u182, u183, u184, u185, u186, u187, u188, u189, u190, u191, u192, u193, u194, u195, u196, u197, u198, u199, u200, u201, u202, u203], []⟩) → J a' w1) :
  Code.wp Try.prog (Code.region 11 (opsOf Try.f3 11) true) (Exit.then K' (Exit.then K1 (bodyPost Try.prog Try.f3 Q'))) ⟨#[.slice A0 l0.length c0, undef, .bool false, .slice Ao13 t497.length co13, .slice Ao14 t500.length co14, .int .i64 t503, .pointer (some ⟨gb509, 0, none⟩), .int .i64 t506, .int .i64 t507, .bool t508, .bool t510, .pointer (some ⟨gb528, 0, none⟩), .pointer (some ⟨gb529, 0, none⟩), .pointer (some ⟨gb538, 0, none⟩), .bool t537, undef, undef, undef, undef, undef, undef, undef, undef, undef, u24, u25, u26, u27, u28, u29, u30, u31, u32, u33, u34, u35, u36, u37, u38, u39, u40, u41, u42, u43, u44, u45, u46, u47, u48, u49, u50, u51, u52, u53, u54, u55, u56, u57, u58, u59, u60, u61, u62, u63, u64, u65, u66, u67, u68, u69, u70, u71, u72, u73, u74, u75, u76, u77, u78, u79, u80, u81, u82, u83, u84, u85, u86, u87, u88, u89, u90, u91, u92, .bool false, .tuple #[.agg #[.int .i64 t519, .int .i64 t520, .int .i64 t521, .int .i64 t522, .int .i64 t523, .int .i64 t524, .bool t525], .agg #[.int .i64 t526, .int .i64 t527]], .slice A0 l0.length c0, .tuple #[.agg #[.int .i64 t519, .int .i64 t520, .int .i64 t521, .int .i64 t522, .int .i64 t523, .int .i64 t524, .bool t525], .agg #[.int .i64 t526, .int .i64 t527]], .agg #[.int .i64 t519, .int .i64 t520, .int .i64 t521, .int .i64 t522, .int .i64 t523, .int .i64 t524, .bool t525], .agg #[.int .i64 t526, .int .i64 t527], .tuple #[.agg #[.int .i64 t530, .int .i64 t531, .int .i64 t532, .int .i64 t533, .int .i64 t534, .int .i64 t535, .bool t536], .bool t537], .agg #[.int .i64 t519, .int .i64 t520, .int .i64 t521, .int .i64 t522, .int .i64 t523, .int .i64 t524, .bool t525], .agg #[.int .i64 t526, .int .i64 t527], .tuple #[.agg #[.int .i64 t530, .int .i64 t531, .int .i64 t532, .int .i64 t533, .int .i64 t534, .int .i64 t535, .bool t536], .bool t537], .agg #[.int .i64 t530, .int .i64 t531, .int .i64 t532, .int .i64 t533, .int .i64 t534, .int .i64 t535, .bool t536], .bool t537, u105, u106, u107, u108, u109, u110, u111, u112, u113, u114, u115, u116, u117, u118, u119, u120, u121, u122, u123, u124, u125, u126, u127, u128, u129, u130, u131, u132, u133, u134, u135, u136, u137, u138, u139, u140, u141, u142, u143, u144, u145, u146, u147, u148, u149, u150, u151, u152, u153, u154, u155, u156, u157, u158, u159, u160, u161, u162, u163, u164, u165, u166, u167, u168, u169, u170, u171, u172, u173, u174, u175, u176, u177, u178, u179, u180, u181, u182, u183, u184, u185, u186, u187, u188, u189, u190, u191, u192, u193, u194, u195, u196, u197, u198, u199, u200, u201, u202, u203], []⟩ (((((((w54.setCell ⟨gb538, 0, none⟩ (.int .i64 t530)).setCell ⟨gb538, 1, none⟩ (.int .i64 t531)).setCell ⟨gb538, 2, none⟩ (.int .i64 t532)).setCell ⟨gb538, 3, none⟩ (.int .i64 t533)).setCell ⟨gb538, 4, none⟩ (.int .i64 t534)).setCell ⟨gb538, 5, none⟩ (.int .i64 t535)).setCell ⟨gb538, 6, none⟩ (.bool t536)) := by
 refine wpLit (f := Try.f3) rfl ?_
 have H := HC44.out
 clear HC44
 by_cases c59 : t537 = true
 ·subst c59
  replace H := hT H
  obtain ⟨y539, hy539⟩ : ∃ y_ : List (S35), y_ = (([(⟨t530, (⟨t531, t532⟩ : S33), t533, t534, t535, t536⟩ : S35)] : List (S35))) := ⟨_, rfl⟩
  replace H : ((impl_IsWithinGrants.f kj8 y539 (([(⟨t519, (⟨t520, t521⟩ : S33), t522, t523, t524, t525⟩ : S35)] : List (S35)))).bind fun t545 => (if t545 = true then ((impl_Covers.f t530 t531 t532 t533 t534 t535 t536 t503 t504 t505 t506 t507 t508).bind fun t546 => ((impl_Covers.f t519 t520 t521 t522 t523 t524 t525 t503 t504 t505 t506 t507 t508).bind fun t547 => (if t547 = true then ((impl_MatchSite.f t526 t527 t504 t505).bind fun t548 => (laws_FnNarrowed.j1 kj8 l0 t503 t508 (t546 != t548) t504 t505)) else (laws_FnNarrowed.j1 kj8 l0 t503 t508 (t546 != false) t504 t505)))) else (laws_FnNarrowed.j1 kj8 l0 t503 t508 true t504 t505))) = some r := by first | (rw [hy539]; with_reducible exact H) | (have H2_ := (Option.bind_some _ _).symm.trans H; rw [hy539]; with_reducible exact H2_) | (have H2_ := (Option.bind_some _ _).symm.trans H; with_reducible exact H2_) | with_reducible exact H | (rw [hy539]; exact H) | exact H
  have Ny539 := am hy539
  clear hy539
  obtain ⟨y542, hy542⟩ : ∃ y_ : List (S35), y_ = (([(⟨t519, (⟨t520, t521⟩ : S33), t522, t523, t524, t525⟩ : S35)] : List (S35))) := ⟨_, rfl⟩
  replace H : ((impl_IsWithinGrants.f kj8 y539 y542).bind fun t545 => (if t545 = true then ((impl_Covers.f t530 t531 t532 t533 t534 t535 t536 t503 t504 t505 t506 t507 t508).bind fun t546 => ((impl_Covers.f t519 t520 t521 t522 t523 t524 t525 t503 t504 t505 t506 t507 t508).bind fun t547 => (if t547 = true then ((impl_MatchSite.f t526 t527 t504 t505).bind fun t548 => (laws_FnNarrowed.j1 kj8 l0 t503 t508 (t546 != t548) t504 t505)) else (laws_FnNarrowed.j1 kj8 l0 t503 t508 (t546 != false) t504 t505)))) else (laws_FnNarrowed.j1 kj8 l0 t503 t508 true t504 t505))) = some r := by first | (rw [hy542]; with_reducible exact H) | (have H2_ := (Option.bind_some _ _).symm.trans H; rw [hy542]; with_reducible exact H2_) | (have H2_ := (Option.bind_some _ _).symm.trans H; with_reducible exact H2_) | with_reducible exact H | (rw [hy542]; exact H) | exact H
  have Ny542 := am hy542
  clear hy542
  replace H := bO H
  obtain ⟨t545, A60, H⟩ := H
  by_cases c61 : t545 = true
  ·subst c61
   replace H := hT H
   replace H := bO H
   obtain ⟨t546, A62, H⟩ := H
   replace H := bO H
   obtain ⟨t547, A63, H⟩ := H
   by_cases c64 : t547 = true
   ·subst c64
    replace H := hT H
    replace H := bO H
    obtain ⟨t548, A65, H⟩ := H
    have H' := am H
    clear H
    try go_wp2
    have n0_ : Aside0 ((((((((w54.setCell ⟨gb538, 0, none⟩ (.int .i64 t530)).setCell ⟨gb538, 1, none⟩ (.int .i64 t531)).setCell ⟨gb538, 2, none⟩ (.int .i64 t532)).setCell ⟨gb538, 3, none⟩ (.int .i64 t533)).setCell ⟨gb538, 4, none⟩ (.int .i64 t534)).setCell ⟨gb538, 5, none⟩ (.int .i64 t535)).setCell ⟨gb538, 6, none⟩ (.bool t536)).heap[gb509]? = some (.cells #[.int .i64 t504, .int .i64 t505] 27 (0, 0))) := ⟨by refine bB ?_; refine blk_far ?_ NB509_538.out _; refine bB ?_; refine blk_far ?_ NB509_538.out _; refine bB ?_; refine blk_far ?_ NB509_538.out _; refine bB ?_; refine blk_far ?_ NB509_538.out _; refine bB ?_; refine blk_far ?_ NB509_538.out _; refine bB ?_; refine blk_far ?_ NB509_538.out _; refine bB ?_; refine blk_far ?_ NB509_538.out _; refine bB ?_; exact BK509.out⟩
    have n1_ : Aside0 ((((((((w54.setCell ⟨gb538, 0, none⟩ (.int .i64 t530)).setCell ⟨gb538, 1, none⟩ (.int .i64 t531)).setCell ⟨gb538, 2, none⟩ (.int .i64 t532)).setCell ⟨gb538, 3, none⟩ (.int .i64 t533)).setCell ⟨gb538, 4, none⟩ (.int .i64 t534)).setCell ⟨gb538, 5, none⟩ (.int .i64 t535)).setCell ⟨gb538, 6, none⟩ (.bool t536)).heap[gb528]? = some (.cells #[.int .i64 t519, .int .i64 t520, .int .i64 t521, .int .i64 t522, .int .i64 t523, .int .i64 t524, .bool t525] 35 (0, 0))) := ⟨by refine bB ?_; refine blk_far ?_ NB528_538.out _; refine bB ?_; refine blk_far ?_ NB528_538.out _; refine bB ?_; refine blk_far ?_ NB528_538.out _; refine bB ?_; refine blk_far ?_ NB528_538.out _; refine bB ?_; refine blk_far ?_ NB528_538.out _; refine bB ?_; refine blk_far ?_ NB528_538.out _; refine bB ?_; refine blk_far ?_ NB528_538.out _; refine bB ?_; exact BK528.out⟩
    have n2_ : Aside0 ((((((((w54.setCell ⟨gb538, 0, none⟩ (.int .i64 t530)).setCell ⟨gb538, 1, none⟩ (.int .i64 t531)).setCell ⟨gb538, 2, none⟩ (.int .i64 t532)).setCell ⟨gb538, 3, none⟩ (.int .i64 t533)).setCell ⟨gb538, 4, none⟩ (.int .i64 t534)).setCell ⟨gb538, 5, none⟩ (.int .i64 t535)).setCell ⟨gb538, 6, none⟩ (.bool t536)).heap[gb529]? = some (.cells #[.int .i64 t526, .int .i64 t527] 33 (0, 0))) := ⟨by refine bB ?_; refine blk_far ?_ NB529_538.out _; refine bB ?_; refine blk_far ?_ NB529_538.out _; refine bB ?_; refine blk_far ?_ NB529_538.out _; refine bB ?_; refine blk_far ?_ NB529_538.out _; refine bB ?_; refine blk_far ?_ NB529_538.out _; refine bB ?_; refine blk_far ?_ NB529_538.out _; refine bB ?_; refine blk_far ?_ NB529_538.out _; refine bB ?_; exact BK529.out⟩
    have n3_ : Aside0 ((((((((w54.setCell ⟨gb538, 0, none⟩ (.int .i64 t530)).setCell ⟨gb538, 1, none⟩ (.int .i64 t531)).setCell ⟨gb538, 2, none⟩ (.int .i64 t532)).setCell ⟨gb538, 3, none⟩ (.int .i64 t533)).setCell ⟨gb538, 4, none⟩ (.int .i64 t534)).setCell ⟨gb538, 5, none⟩ (.int .i64 t535)).setCell ⟨gb538, 6, none⟩ (.bool t536)).heap[gb538]? = some (.cells #[.int .i64 t530, .int .i64 t531, .int .i64 t532, .int .i64 t533, .int .i64 t534, .int .i64 t535, .bool t536] 35 (0, 0))) := ⟨by refine bB ?_; refine Kg (cs := #[.int .i64 t530, .int .i64 t531, .int .i64 t532, .int .i64 t533, .int .i64 t534, .int .i64 t535, .bool false]) ?_ 6 _ rfl; refine bB ?_; refine Kg (cs := #[.int .i64 t530, .int .i64 t531, .int .i64 t532, .int .i64 t533, .int .i64 t534, .int .i64 0, .bool false]) ?_ 5 _ rfl; refine bB ?_; refine Kg (cs := #[.int .i64 t530, .int .i64 t531, .int .i64 t532, .int .i64 t533, .int .i64 0, .int .i64 0, .bool false]) ?_ 4 _ rfl; refine bB ?_; refine Kg (cs := #[.int .i64 t530, .int .i64 t531, .int .i64 t532, .int .i64 0, .int .i64 0, .int .i64 0, .bool false]) ?_ 3 _ rfl; refine bB ?_; refine Kg (cs := #[.int .i64 t530, .int .i64 t531, .int .i64 0, .int .i64 0, .int .i64 0, .int .i64 0, .bool false]) ?_ 2 _ rfl; refine bB ?_; refine Kg (cs := #[.int .i64 t530, .int .i64 0, .int .i64 0, .int .i64 0, .int .i64 0, .int .i64 0, .bool false]) ?_ 1 _ rfl; refine bB ?_; refine Kg (cs := #[.int .i64 0, .int .i64 0, .int .i64 0, .int .i64 0, .int .i64 0, .int .i64 0, .bool false]) ?_ 0 _ rfl; refine bB ?_; exact BK538.out⟩
    have n4_ : Aside0 (Below w.heap.size w (((((((w54.setCell ⟨gb538, 0, none⟩ (.int .i64 t530)).setCell ⟨gb538, 1, none⟩ (.int .i64 t531)).setCell ⟨gb538, 2, none⟩ (.int .i64 t532)).setCell ⟨gb538, 3, none⟩ (.int .i64 t533)).setCell ⟨gb538, 4, none⟩ (.int .i64 t534)).setCell ⟨gb538, 5, none⟩ (.int .i64 t535)).setCell ⟨gb538, 6, none⟩ (.bool t536))) := ⟨sB HB.out⟩
    (try clear BK509)
    (try clear BK528)
    (try clear BK529)
    (try clear BK538)
    (try clear HB)
    generalize (((((((w54.setCell ⟨gb538, 0, none⟩ (.int .i64 t530)).setCell ⟨gb538, 1, none⟩ (.int .i64 t531)).setCell ⟨gb538, 2, none⟩ (.int .i64 t532)).setCell ⟨gb538, 3, none⟩ (.int .i64 t533)).setCell ⟨gb538, 4, none⟩ (.int .i64 t534)).setCell ⟨gb538, 5, none⟩ (.int .i64 t535)).setCell ⟨gb538, 6, none⟩ (.bool t536)) = w66 at n0_ n1_ n2_ n3_ n4_ ⊢
    have BK509 := n0_
    have BK528 := n1_
    have BK529 := n2_
    have BK538 := n3_
    have HB := n4_
    clear n0_ n1_ n2_ n3_ n4_
    replace BK509 := am (blk_drew BK509.out)
    replace BK528 := am (blk_drew BK528.out)
    replace BK529 := am (blk_drew BK529.out)
    replace BK538 := am (blk_drew BK538.out)
    replace HB := am (Ks HB.out)
    refine start_ (n := 31) (S := fun w' => True) (ds := []) #[z,z,z,z,z,z,z,z,z,z,z,z,z,z,z,z,z,z,z,z,z,z,z,z,z,z,z,z,z,z,z] (by kernel_rfl) rfl rfl trivial (fun hHeld => ?_); refine with_tabW laws_FnNarrowed.tab11 laws_FnNarrowed.bits11 (fun HT_ HW_ => ?_)
    generalize w66.drew = w67 at BK509 BK528 BK529 BK538 HB hHeld ⊢
    refine pu 0 105 #[o,z,z,z,z,z,z,z,z,z,z,z,z,z,z,z,z,z,z,z,z,z,z,z,z,z,z,z,z,z,z] HT_ ?_
    refine pu 1 106 #[o,o,z,z,z,z,z,z,z,z,z,z,z,z,z,z,z,z,z,z,z,z,z,z,z,z,z,z,z,z,z] HT_ ?_
    refine inv_at [2, 3, 4, 5, 6, 7, 8, 9, 10, 11, 12, 13, 14, 15, 16, 17, 18, 19, 20, 21, 22, 23, 24, 25, 26, 27, 28, 29, 30] (fun a0_ b a w' => ∃ (v540 : Value) (v543 : Value), a = putSel a0_ b [(2, 107, .agg #[.int .i64 t530, .int .i64 t531, .int .i64 t532, .int .i64 t533, .int .i64 t534, .int .i64 t535, .bool t536]), (3, 108, v540), (4, 109, .agg #[.int .i64 t519, .int .i64 t520, .int .i64 t521, .int .i64 t522, .int .i64 t523, .int .i64 t524, .bool t525]), (5, 110, v543), (6, 111, .bool true), (7, 112, .bool (!true)), (8, 113, .bool (!true)), (9, 114, .agg #[.int .i64 t530, .int .i64 t531, .int .i64 t532, .int .i64 t533, .int .i64 t534, .int .i64 t535, .bool t536]), (10, 115, .int .i64 t503), (11, 116, .agg #[.int .i64 t504, .int .i64 t505]), (12, 117, .int .i64 t506), (13, 118, .int .i64 t507), (14, 119, .bool t508), (15, 120, .bool t546), (16, 121, .agg #[.int .i64 t519, .int .i64 t520, .int .i64 t521, .int .i64 t522, .int .i64 t523, .int .i64 t524, .bool t525]), (17, 122, .int .i64 t503), (18, 123, .agg #[.int .i64 t504, .int .i64 t505]), (19, 124, .int .i64 t506), (20, 125, .int .i64 t507), (21, 126, .bool t508), (22, 127, .bool true), (23, 128, .bool true), (24, 129, .agg #[.int .i64 t526, .int .i64 t527]), (25, 130, .agg #[.int .i64 t504, .int .i64 t505]), (26, 131, .bool t548), (27, 132, .bool t548), (28, 133, .bool (t546 != t548)), (29, 134, .bool (t546 != t548)), (30, 135, .bool (t546 != t548))] ∧ (w'.heap[gb509]? = some (.cells #[.int .i64 t504, .int .i64 t505] 27 (0, 0))) ∧ (w'.heap[gb528]? = some (.cells #[.int .i64 t519, .int .i64 t520, .int .i64 t521, .int .i64 t522, .int .i64 t523, .int .i64 t524, .bool t525] 35 (0, 0))) ∧ (w'.heap[gb529]? = some (.cells #[.int .i64 t526, .int .i64 t527] 33 (0, 0))) ∧ (w'.heap[gb538]? = some (.cells #[.int .i64 t530, .int .i64 t531, .int .i64 t532, .int .i64 t533, .int .i64 t534, .int .i64 t535, .bool t536] 35 (0, 0))) ∧ (Below w.heap.size w w') ∧ (b 3 = true → Kd.R k35 35 w' w.heap.size (fun k_ => k_ ≠ gb528 ∧ k_ ≠ gb538) v540 y539) ∧ (b 5 = true → Kd.R k35 35 w' w.heap.size (fun k_ => k_ ≠ gb528 ∧ k_ ≠ gb538) v543 y542)) HT_.out HW_.out (by kernel_rfl) (by kernel_rfl) ?_ ?_ ?_
    ·exact ⟨.bool false, .bool false, by simp only [putSel, Bool.false_eq_true, if_false], BK509.out, BK528.out, BK529.out, BK538.out, HB.out, fun h_ => absurd h_ (by decide), fun h_ => absurd h_ (by decide)⟩
    ·skip
     clear BK509 BK528 BK529 BK538 HB
     refine steps_cons ?_ ?_
     ·rintro b a w' ⟨v540, v543, ha, Q_BK509, Q_BK528, Q_BK529, Q_BK538, Q_HB, Q_HO541, Q_HO544⟩ hb_ hon hoff
      refine ⟨_, rfl, fun K hK => ?_⟩
      have e13 := eo 13 ha
      have e106 := eo 106 ha
      replace ha := am ha
      have BK509 := am Q_BK509
      have BK528 := am Q_BK528
      have BK529 := am Q_BK529
      have BK538 := am Q_BK538
      have HB := am Q_HB
      have hc0_ : w'.cell? ⟨gb538, 0, none⟩ = some (.int .i64 t530) := (Kk BK538.out 0).trans rfl
      have hc1_ : w'.cell? ⟨gb538, 1, none⟩ = some (.int .i64 t531) := (Kk BK538.out 1).trans rfl
      have hc2_ : w'.cell? ⟨gb538, 2, none⟩ = some (.int .i64 t532) := (Kk BK538.out 2).trans rfl
      have hc3_ : w'.cell? ⟨gb538, 3, none⟩ = some (.int .i64 t533) := (Kk BK538.out 3).trans rfl
      have hc4_ : w'.cell? ⟨gb538, 4, none⟩ = some (.int .i64 t534) := (Kk BK538.out 4).trans rfl
      have hc5_ : w'.cell? ⟨gb538, 5, none⟩ = some (.int .i64 t535) := (Kk BK538.out 5).trans rfl
      have hc6_ : w'.cell? ⟨gb538, 6, none⟩ = some (.bool t536) := (Kk BK538.out 6).trans rfl
      refine value_ (w1 := w') (v := .agg #[.int .i64 t530, .int .i64 t531, .int .i64 t532, .int .i64 t533, .int .i64 t534, .int .i64 t535, .bool t536]) (wanted_on rfl rfl rfl (e106.trans (by first | rfl | (simp [*]; done)))) rfl ?_ ?_
      ·go_simp
       (try simp only [i64_w])
       try rfl
      refine hK.out _ _ ⟨v540, v543, (by rw [ha.out]; exact putSel_upk 0 hb_ rfl rfl rfl), Q_BK509, Q_BK528, Q_BK529, Q_BK538, Q_HB, fun h0_ => absurd ((hoff 3 (by kernel_rfl)).symm.trans h0_) (by decide), Q_HO544⟩
     refine steps_cons ?_ ?_
     ·rintro b a w' ⟨v540, v543, ha, Q_BK509, Q_BK528, Q_BK529, Q_BK538, Q_HB, Q_HO541, Q_HO544⟩ hb_ hon hoff
      refine ⟨_, rfl, fun K hK => ?_⟩
      have e107 := eu 107 0 ha (hon 2 (by kernel_rfl))
      have e106 := eo 106 ha
      replace ha := am ha
      have BK509 := am Q_BK509
      have BK528 := am Q_BK528
      have BK529 := am Q_BK529
      have BK538 := am Q_BK538
      have HB := am Q_HB
      refine Kd.R_lit_step k35 _ 35 ?hg (N := 108) ?hd (xs := ([(⟨t530, (⟨t531, t532⟩ : S33), t533, t534, t535, t536⟩ : S35)] : List (S35))) (inner := [.int .i64 t530, .int .i64 t531, .int .i64 t532, .int .i64 t533, .int .i64 t534, .int .i64 t535, .bool t536]) (ok := fun _ => True) (okp := fun _ => True) ?hr ?hp (fun _ hk => hk) trivial (Below.refl _ _) (Nat.le_refl _) (by simp) ?_; (case hd => rfl); (case hg => exact wanted_on rfl rfl rfl (e106.trans (by first | rfl | (simp [*]; done)))); (case hr => first | (go_simp; done) | (go_simp; rfl)); (case hp => exact (Reps.c7 (show Kd.M k35 _ _ _ (⟨t530, (⟨t531, t532⟩ : S33), t533, t534, t535, t536⟩ : S35) [.int .i64 t530, .int .i64 t531, .int .i64 t532, .int .i64 t533, .int .i64 t534, .int .i64 t535, .bool t536] from (k35_mkM _ _ _ (⟨t530, (⟨t531, t532⟩ : S33), t533, t534, t535, t536⟩ : S35) )) (Reps.none _ _)))
      intro v540 w68 ho69 hb hg_ hnew_
      clear hg_ hnew_
      (first | rw [← Ny539.out] at ho69 | (simp only [Int.reduceToNat] at ho69; rw [← Ny539.out] at ho69))
      have n0_ := am (Kd.R_lower (Kd.R_newB (Kd.R_newB ho69 (bB BK528.out)) (bB BK538.out)) (below_size (sB HB.out)))
      have n1_ := am (Kb (bB BK509.out) hb)
      have n2_ := am (Kb (bB BK528.out) hb)
      have n3_ := am (Kb (bB BK529.out) hb)
      have n4_ := am (Kb (bB BK538.out) hb)
      have n5_ := am (Kh (sB HB.out) hb)
      have z_HO544 := fun (h0_ : b 5 = true) => (show Kd.R k35 35 w68 w.heap.size (fun k_ => k_ ≠ gb528 ∧ k_ ≠ gb538) v543 y542 from by first | exact (Kd.R_elder' (by (with_reducible repeat (first | apply Kd.R_alloc | apply Kd.R_drewN | apply Kd.R_drew)); exact (Q_HO544 h0_)) (Kd.R_base ho69) hb) | exact Kt (Kd.R_elder' (by (with_reducible repeat (first | apply Kd.R_alloc | apply Kd.R_drewN | apply Kd.R_drew)); exact (Q_HO544 h0_)) (Kd.R_base ho69) hb) (fun _ h_ => by first | trivial | exact h_ | exact h_.1))
      clear BK509
      clear BK528
      clear BK529
      clear BK538
      clear HB
      have HO541 := n0_
      have BK509 := n1_
      have BK528 := n2_
      have BK529 := n3_
      have BK538 := n4_
      have HB := n5_
      clear n0_ n1_ n2_ n3_ n4_ n5_
      clear hb ho69
      refine hK.out _ _ ⟨v540, v543, (by rw [ha.out]; exact putSel_upk 1 hb_ rfl rfl rfl), (bB BK509.out), (bB BK528.out), (bB BK529.out), (bB BK538.out), (sB HB.out), fun _ => (by (with_reducible repeat (first | apply Kd.R_alloc | apply Kd.R_drewN | apply Kd.R_drew)); exact Kt HO541.out (fun _ hk => ⟨hk.1.2, hk.2⟩)), z_HO544⟩
     refine steps_cons ?_ ?_
     ·rintro b a w' ⟨v540, v543, ha, Q_BK509, Q_BK528, Q_BK529, Q_BK538, Q_HB, Q_HO541, Q_HO544⟩ hb_ hon hoff
      refine ⟨_, rfl, fun K hK => ?_⟩
      have e11 := eo 11 ha
      have e106 := eo 106 ha
      replace ha := am ha
      have BK509 := am Q_BK509
      have BK528 := am Q_BK528
      have BK529 := am Q_BK529
      have BK538 := am Q_BK538
      have HB := am Q_HB
      have hc0_ : w'.cell? ⟨gb528, 0, none⟩ = some (.int .i64 t519) := (Kk BK528.out 0).trans rfl
      have hc1_ : w'.cell? ⟨gb528, 1, none⟩ = some (.int .i64 t520) := (Kk BK528.out 1).trans rfl
      have hc2_ : w'.cell? ⟨gb528, 2, none⟩ = some (.int .i64 t521) := (Kk BK528.out 2).trans rfl
      have hc3_ : w'.cell? ⟨gb528, 3, none⟩ = some (.int .i64 t522) := (Kk BK528.out 3).trans rfl
      have hc4_ : w'.cell? ⟨gb528, 4, none⟩ = some (.int .i64 t523) := (Kk BK528.out 4).trans rfl
      have hc5_ : w'.cell? ⟨gb528, 5, none⟩ = some (.int .i64 t524) := (Kk BK528.out 5).trans rfl
      have hc6_ : w'.cell? ⟨gb528, 6, none⟩ = some (.bool t525) := (Kk BK528.out 6).trans rfl
      refine value_ (w1 := w') (v := .agg #[.int .i64 t519, .int .i64 t520, .int .i64 t521, .int .i64 t522, .int .i64 t523, .int .i64 t524, .bool t525]) (wanted_on rfl rfl rfl (e106.trans (by first | rfl | (simp [*]; done)))) rfl ?_ ?_
      ·go_simp
       (try simp only [i64_w])
       try rfl
      refine hK.out _ _ ⟨v540, v543, (by rw [ha.out]; exact putSel_upk 2 hb_ rfl rfl rfl), Q_BK509, Q_BK528, Q_BK529, Q_BK538, Q_HB, Q_HO541, fun h0_ => absurd ((hoff 5 (by kernel_rfl)).symm.trans h0_) (by decide)⟩
     refine steps_cons ?_ ?_
     ·rintro b a w' ⟨v540, v543, ha, Q_BK509, Q_BK528, Q_BK529, Q_BK538, Q_HB, Q_HO541, Q_HO544⟩ hb_ hon hoff
      refine ⟨_, rfl, fun K hK => ?_⟩
      have e109 := eu 109 2 ha (hon 4 (by kernel_rfl))
      have e106 := eo 106 ha
      replace ha := am ha
      have BK509 := am Q_BK509
      have BK528 := am Q_BK528
      have BK529 := am Q_BK529
      have BK538 := am Q_BK538
      have HB := am Q_HB
      refine Kd.R_lit_step k35 _ 35 ?hg (N := 110) ?hd (xs := ([(⟨t519, (⟨t520, t521⟩ : S33), t522, t523, t524, t525⟩ : S35)] : List (S35))) (inner := [.int .i64 t519, .int .i64 t520, .int .i64 t521, .int .i64 t522, .int .i64 t523, .int .i64 t524, .bool t525]) (ok := fun _ => True) (okp := fun _ => True) ?hr ?hp (fun _ hk => hk) trivial (Below.refl _ _) (Nat.le_refl _) (by simp) ?_; (case hd => rfl); (case hg => exact wanted_on rfl rfl rfl (e106.trans (by first | rfl | (simp [*]; done)))); (case hr => first | (go_simp; done) | (go_simp; rfl)); (case hp => exact (Reps.c7 (show Kd.M k35 _ _ _ (⟨t519, (⟨t520, t521⟩ : S33), t522, t523, t524, t525⟩ : S35) [.int .i64 t519, .int .i64 t520, .int .i64 t521, .int .i64 t522, .int .i64 t523, .int .i64 t524, .bool t525] from (k35_mkM _ _ _ (⟨t519, (⟨t520, t521⟩ : S33), t522, t523, t524, t525⟩ : S35) )) (Reps.none _ _)))
      intro v543 w68 ho69 hb hg_ hnew_
      clear hg_ hnew_
      (first | rw [← Ny542.out] at ho69 | (simp only [Int.reduceToNat] at ho69; rw [← Ny542.out] at ho69))
      have n0_ := am (Kd.R_lower (Kd.R_newB (Kd.R_newB ho69 (bB BK528.out)) (bB BK538.out)) (below_size (sB HB.out)))
      have n1_ := am (Kb (bB BK509.out) hb)
      have n2_ := am (Kb (bB BK528.out) hb)
      have n3_ := am (Kb (bB BK529.out) hb)
      have n4_ := am (Kb (bB BK538.out) hb)
      have n5_ := am (Kh (sB HB.out) hb)
      have z_HO541 := fun (h0_ : b 3 = true) => (show Kd.R k35 35 w68 w.heap.size (fun k_ => k_ ≠ gb528 ∧ k_ ≠ gb538) v540 y539 from by first | exact (Kd.R_elder' (by (with_reducible repeat (first | apply Kd.R_alloc | apply Kd.R_drewN | apply Kd.R_drew)); exact (Q_HO541 h0_)) (Kd.R_base ho69) hb) | exact Kt (Kd.R_elder' (by (with_reducible repeat (first | apply Kd.R_alloc | apply Kd.R_drewN | apply Kd.R_drew)); exact (Q_HO541 h0_)) (Kd.R_base ho69) hb) (fun _ h_ => by first | trivial | exact h_ | exact h_.1))
      clear BK509
      clear BK528
      clear BK529
      clear BK538
      clear HB
      have HO544 := n0_
      have BK509 := n1_
      have BK528 := n2_
      have BK529 := n3_
      have BK538 := n4_
      have HB := n5_
      clear n0_ n1_ n2_ n3_ n4_ n5_
      clear hb ho69
      refine hK.out _ _ ⟨v540, v543, (by rw [ha.out]; exact putSel_upk 3 hb_ rfl rfl rfl), (bB BK509.out), (bB BK528.out), (bB BK529.out), (bB BK538.out), (sB HB.out), z_HO541, fun _ => (by (with_reducible repeat (first | apply Kd.R_alloc | apply Kd.R_drewN | apply Kd.R_drew)); exact Kt HO544.out (fun _ hk => ⟨hk.1.2, hk.2⟩))⟩
     refine steps_cons ?_ ?_
     ·rintro b a w' ⟨v540, v543, ha, Q_BK509, Q_BK528, Q_BK529, Q_BK538, Q_HB, Q_HO541, Q_HO544⟩ hb_ hon hoff
      refine ⟨_, rfl, fun K hK => ?_⟩
      have e108 := eu 108 1 ha (hon 3 (by kernel_rfl))
      have e110 := eu 110 3 ha (hon 5 (by kernel_rfl))
      have e106 := eo 106 ha
      replace ha := am ha
      have BK509 := am Q_BK509
      have BK528 := am Q_BK528
      have BK529 := am Q_BK529
      have BK538 := am Q_BK538
      have HB := am Q_HB
      have HO541 := am (Q_HO541 (hon 3 (by kernel_rfl)))
      have HO544 := am (Q_HO544 (hon 5 (by kernel_rfl)))
      obtain ⟨Ao73, co73, eo73⟩ := Kd.R_slice HO541.out
      (first | subst eo73 | (injection eo73 with f1_ f2_ f3_; have f4_ := f1_.symm; have f5_ := f3_.symm; clear f1_ f2_ f3_; subst f4_; subst f5_))
      obtain ⟨Ao74, co74, eo74⟩ := Kd.R_slice HO544.out
      (first | subst eo74 | (injection eo74 with f1_ f2_ f3_; have f4_ := f1_.symm; have f5_ := f3_.symm; clear f1_ f2_ f3_; subst f4_; subst f5_))
      refine goes_ Try.func13 (by kernel_rfl) rfl #[.slice Ao73 y539.length co73, .slice Ao74 y542.length co74] (wanted_on rfl rfl rfl (e106.trans (by first | rfl | (simp [*]; done)))) rfl rfl (by first | (simp only [List.map_toArray, List.map_cons, List.map_nil, Act.eval, Array.getD_eq_getD_getElem?, Option.getD_some, e108, e110, e106]; done) | (simp only [List.map_toArray, List.map_cons, List.map_nil, Act.eval, Array.getD_eq_getD_getElem?, Option.getD_some, e108, e110, e106]; rfl)) ?_
      with_reducible refine (impl_IsWithinGrants.calls kj8 _ _ y539 _ _ y542 true _ ?side1 ?side2 ?side3 ?side4 A60.out).mono ?_
      (case side1 => exact cB ((Kq HO541.out).2.2))
      (case side2 => exact (Kq HO541.out).2.1)
      (case side3 => exact cB ((Kq HO544.out).2.2))
      (case side4 => exact (Kq HO544.out).2.1)
      rintro e w75 ⟨rfl, hb⟩
      refine ⟨_, rfl, ?_⟩
      replace HO541 := am (Ko (rB HO541.out) hb)
      replace HO544 := am (Ko (rB HO544.out) hb)
      replace BK509 := am (Kb (bB BK509.out) hb)
      replace BK528 := am (Kb (bB BK528.out) hb)
      replace BK529 := am (Kb (bB BK529.out) hb)
      replace BK538 := am (Kb (bB BK538.out) hb)
      replace HB := am (Kh (sB HB.out) hb)
      (try clear hb)
      (try clear hb2)
      (try clear hk)
      (try clear hi)
      refine hK.out _ _ ⟨.slice Ao73 y539.length co73, .slice Ao74 y542.length co74, (by rw [ha.out]; exact putSel_upk 4 hb_ rfl rfl rfl), (bB BK509.out), (bB BK528.out), (bB BK529.out), (bB BK538.out), (sB HB.out), fun _ => (rB HO541.out), fun _ => (rB HO544.out)⟩
     refine steps_cons ?_ ?_
     ·rintro b a w' ⟨v540, v543, ha, Q_BK509, Q_BK528, Q_BK529, Q_BK538, Q_HB, Q_HO541, Q_HO544⟩ hb_ hon hoff
      refine ⟨_, rfl, fun K hK => ?_⟩
      have e111 := eu 111 4 ha (hon 6 (by kernel_rfl))
      have e106 := eo 106 ha
      replace ha := am ha
      have BK509 := am Q_BK509
      have BK528 := am Q_BK528
      have BK529 := am Q_BK529
      have BK538 := am Q_BK538
      have HB := am Q_HB
      have HO541 := am (Q_HO541 (hon 3 (by kernel_rfl)))
      have HO544 := am (Q_HO544 (hon 5 (by kernel_rfl)))
      refine value_ (w1 := w') (v := .bool (!true)) (wanted_on rfl rfl rfl (e106.trans (by first | rfl | (simp [*]; done)))) rfl ?_ ?_
      ·go_simp
       (try simp only [i64_w])
       try rfl
      refine hK.out _ _ ⟨v540, v543, (by rw [ha.out]; exact putSel_upk 5 hb_ rfl rfl rfl), Q_BK509, Q_BK528, Q_BK529, Q_BK538, Q_HB, Q_HO541, Q_HO544⟩
     refine steps_cons ?_ ?_
     ·rintro b a w' ⟨v540, v543, ha, Q_BK509, Q_BK528, Q_BK529, Q_BK538, Q_HB, Q_HO541, Q_HO544⟩ hb_ hon hoff
      refine ⟨_, rfl, fun K hK => ?_⟩
      have e112 := eu 112 5 ha (hon 7 (by kernel_rfl))
      have e106 := eo 106 ha
      replace ha := am ha
      have BK509 := am Q_BK509
      have BK528 := am Q_BK528
      have BK529 := am Q_BK529
      have BK538 := am Q_BK538
      have HB := am Q_HB
      have HO541 := am (Q_HO541 (hon 3 (by kernel_rfl)))
      have HO544 := am (Q_HO544 (hon 5 (by kernel_rfl)))
      refine value_ (w1 := w') (v := .bool (!true)) (wanted_on rfl rfl rfl (e106.trans (by first | rfl | (simp [*]; done)))) rfl ?_ ?_
      ·go_simp
       (try simp only [i64_w])
       try rfl
      refine hK.out _ _ ⟨v540, v543, (by rw [ha.out]; exact putSel_upk 6 hb_ rfl rfl rfl), Q_BK509, Q_BK528, Q_BK529, Q_BK538, Q_HB, Q_HO541, Q_HO544⟩
     refine steps_cons ?_ ?_
     ·rintro b a w' ⟨v540, v543, ha, Q_BK509, Q_BK528, Q_BK529, Q_BK538, Q_HB, Q_HO541, Q_HO544⟩ hb_ hon hoff
      refine ⟨_, rfl, fun K hK => ?_⟩
      have e13 := eo 13 ha
      have e113 := eu 113 6 ha (hon 8 (by kernel_rfl))
      replace ha := am ha
      have BK509 := am Q_BK509
      have BK528 := am Q_BK528
      have BK529 := am Q_BK529
      have BK538 := am Q_BK538
      have HB := am Q_HB
      have HO541 := am (Q_HO541 (hon 3 (by kernel_rfl)))
      have HO544 := am (Q_HO544 (hon 5 (by kernel_rfl)))
      have hc0_ : w'.cell? ⟨gb538, 0, none⟩ = some (.int .i64 t530) := (Kk BK538.out 0).trans rfl
      have hc1_ : w'.cell? ⟨gb538, 1, none⟩ = some (.int .i64 t531) := (Kk BK538.out 1).trans rfl
      have hc2_ : w'.cell? ⟨gb538, 2, none⟩ = some (.int .i64 t532) := (Kk BK538.out 2).trans rfl
      have hc3_ : w'.cell? ⟨gb538, 3, none⟩ = some (.int .i64 t533) := (Kk BK538.out 3).trans rfl
      have hc4_ : w'.cell? ⟨gb538, 4, none⟩ = some (.int .i64 t534) := (Kk BK538.out 4).trans rfl
      have hc5_ : w'.cell? ⟨gb538, 5, none⟩ = some (.int .i64 t535) := (Kk BK538.out 5).trans rfl
      have hc6_ : w'.cell? ⟨gb538, 6, none⟩ = some (.bool t536) := (Kk BK538.out 6).trans rfl
      refine value_ (w1 := w') (v := .agg #[.int .i64 t530, .int .i64 t531, .int .i64 t532, .int .i64 t533, .int .i64 t534, .int .i64 t535, .bool t536]) (wanted_on rfl rfl rfl (e113.trans (by first | rfl | (simp [*]; done)))) rfl ?_ ?_
      ·go_simp
       (try simp only [i64_w])
       try rfl
      refine hK.out _ _ ⟨v540, v543, (by rw [ha.out]; exact putSel_upk 7 hb_ rfl rfl rfl), Q_BK509, Q_BK528, Q_BK529, Q_BK538, Q_HB, Q_HO541, Q_HO544⟩
     refine steps_cons ?_ ?_
     ·rintro b a w' ⟨v540, v543, ha, Q_BK509, Q_BK528, Q_BK529, Q_BK538, Q_HB, Q_HO541, Q_HO544⟩ hb_ hon hoff
      refine ⟨_, rfl, fun K hK => ?_⟩
      have e5 := eo 5 ha
      have e113 := eu 113 6 ha (hon 8 (by kernel_rfl))
      replace ha := am ha
      have BK509 := am Q_BK509
      have BK528 := am Q_BK528
      have BK529 := am Q_BK529
      have BK538 := am Q_BK538
      have HB := am Q_HB
      have HO541 := am (Q_HO541 (hon 3 (by kernel_rfl)))
      have HO544 := am (Q_HO544 (hon 5 (by kernel_rfl)))
      refine value_ (w1 := w') (v := .int .i64 t503) (wanted_on rfl rfl rfl (e113.trans (by first | rfl | (simp [*]; done)))) rfl ?_ ?_
      ·go_simp
       (try simp only [i64_w])
       try rfl
      refine hK.out _ _ ⟨v540, v543, (by rw [ha.out]; exact putSel_upk 8 hb_ rfl rfl rfl), Q_BK509, Q_BK528, Q_BK529, Q_BK538, Q_HB, Q_HO541, Q_HO544⟩
     refine steps_cons ?_ ?_
     ·rintro b a w' ⟨v540, v543, ha, Q_BK509, Q_BK528, Q_BK529, Q_BK538, Q_HB, Q_HO541, Q_HO544⟩ hb_ hon hoff
      refine ⟨_, rfl, fun K hK => ?_⟩
      have e6 := eo 6 ha
      have e113 := eu 113 6 ha (hon 8 (by kernel_rfl))
      replace ha := am ha
      have BK509 := am Q_BK509
      have BK528 := am Q_BK528
      have BK529 := am Q_BK529
      have BK538 := am Q_BK538
      have HB := am Q_HB
      have HO541 := am (Q_HO541 (hon 3 (by kernel_rfl)))
      have HO544 := am (Q_HO544 (hon 5 (by kernel_rfl)))
      have hc0_ : w'.cell? ⟨gb509, 0, none⟩ = some (.int .i64 t504) := (Kk BK509.out 0).trans rfl
      have hc1_ : w'.cell? ⟨gb509, 1, none⟩ = some (.int .i64 t505) := (Kk BK509.out 1).trans rfl
      refine value_ (w1 := w') (v := .agg #[.int .i64 t504, .int .i64 t505]) (wanted_on rfl rfl rfl (e113.trans (by first | rfl | (simp [*]; done)))) rfl ?_ ?_
      ·go_simp
       (try simp only [i64_w])
       try rfl
      refine hK.out _ _ ⟨v540, v543, (by rw [ha.out]; exact putSel_upk 9 hb_ rfl rfl rfl), Q_BK509, Q_BK528, Q_BK529, Q_BK538, Q_HB, Q_HO541, Q_HO544⟩
     refine steps_cons ?_ ?_
     ·rintro b a w' ⟨v540, v543, ha, Q_BK509, Q_BK528, Q_BK529, Q_BK538, Q_HB, Q_HO541, Q_HO544⟩ hb_ hon hoff
      refine ⟨_, rfl, fun K hK => ?_⟩
      have e7 := eo 7 ha
      have e113 := eu 113 6 ha (hon 8 (by kernel_rfl))
      replace ha := am ha
      have BK509 := am Q_BK509
      have BK528 := am Q_BK528
      have BK529 := am Q_BK529
      have BK538 := am Q_BK538
      have HB := am Q_HB
      have HO541 := am (Q_HO541 (hon 3 (by kernel_rfl)))
      have HO544 := am (Q_HO544 (hon 5 (by kernel_rfl)))
      refine value_ (w1 := w') (v := .int .i64 t506) (wanted_on rfl rfl rfl (e113.trans (by first | rfl | (simp [*]; done)))) rfl ?_ ?_
      ·go_simp
       (try simp only [i64_w])
       try rfl
      refine hK.out _ _ ⟨v540, v543, (by rw [ha.out]; exact putSel_upk 10 hb_ rfl rfl rfl), Q_BK509, Q_BK528, Q_BK529, Q_BK538, Q_HB, Q_HO541, Q_HO544⟩
     refine steps_cons ?_ ?_
     ·rintro b a w' ⟨v540, v543, ha, Q_BK509, Q_BK528, Q_BK529, Q_BK538, Q_HB, Q_HO541, Q_HO544⟩ hb_ hon hoff
      refine ⟨_, rfl, fun K hK => ?_⟩
      have e8 := eo 8 ha
      have e113 := eu 113 6 ha (hon 8 (by kernel_rfl))
      replace ha := am ha
      have BK509 := am Q_BK509
      have BK528 := am Q_BK528
      have BK529 := am Q_BK529
      have BK538 := am Q_BK538
      have HB := am Q_HB
      have HO541 := am (Q_HO541 (hon 3 (by kernel_rfl)))
      have HO544 := am (Q_HO544 (hon 5 (by kernel_rfl)))
      refine value_ (w1 := w') (v := .int .i64 t507) (wanted_on rfl rfl rfl (e113.trans (by first | rfl | (simp [*]; done)))) rfl ?_ ?_
      ·go_simp
       (try simp only [i64_w])
       try rfl
      refine hK.out _ _ ⟨v540, v543, (by rw [ha.out]; exact putSel_upk 11 hb_ rfl rfl rfl), Q_BK509, Q_BK528, Q_BK529, Q_BK538, Q_HB, Q_HO541, Q_HO544⟩
     refine steps_cons ?_ ?_
     ·rintro b a w' ⟨v540, v543, ha, Q_BK509, Q_BK528, Q_BK529, Q_BK538, Q_HB, Q_HO541, Q_HO544⟩ hb_ hon hoff
      refine ⟨_, rfl, fun K hK => ?_⟩
      have e9 := eo 9 ha
      have e113 := eu 113 6 ha (hon 8 (by kernel_rfl))
      replace ha := am ha
      have BK509 := am Q_BK509
      have BK528 := am Q_BK528
      have BK529 := am Q_BK529
      have BK538 := am Q_BK538
      have HB := am Q_HB
      have HO541 := am (Q_HO541 (hon 3 (by kernel_rfl)))
      have HO544 := am (Q_HO544 (hon 5 (by kernel_rfl)))
      refine value_ (w1 := w') (v := .bool t508) (wanted_on rfl rfl rfl (e113.trans (by first | rfl | (simp [*]; done)))) rfl ?_ ?_
      ·go_simp
       (try simp only [i64_w])
       try rfl
      refine hK.out _ _ ⟨v540, v543, (by rw [ha.out]; exact putSel_upk 12 hb_ rfl rfl rfl), Q_BK509, Q_BK528, Q_BK529, Q_BK538, Q_HB, Q_HO541, Q_HO544⟩
     refine steps_cons ?_ ?_
     ·rintro b a w' ⟨v540, v543, ha, Q_BK509, Q_BK528, Q_BK529, Q_BK538, Q_HB, Q_HO541, Q_HO544⟩ hb_ hon hoff
      refine ⟨_, rfl, fun K hK => ?_⟩
      have e114 := eu 114 7 ha (hon 9 (by kernel_rfl))
      have e115 := eu 115 8 ha (hon 10 (by kernel_rfl))
      have e116 := eu 116 9 ha (hon 11 (by kernel_rfl))
      have e117 := eu 117 10 ha (hon 12 (by kernel_rfl))
      have e118 := eu 118 11 ha (hon 13 (by kernel_rfl))
      have e119 := eu 119 12 ha (hon 14 (by kernel_rfl))
      have e113 := eu 113 6 ha (hon 8 (by kernel_rfl))
      replace ha := am ha
      have BK509 := am Q_BK509
      have BK528 := am Q_BK528
      have BK529 := am Q_BK529
      have BK538 := am Q_BK538
      have HB := am Q_HB
      have HO541 := am (Q_HO541 (hon 3 (by kernel_rfl)))
      have HO544 := am (Q_HO544 (hon 5 (by kernel_rfl)))
      refine goes_ Try.func14 (by kernel_rfl) rfl #[.agg #[.int .i64 t530, .int .i64 t531, .int .i64 t532, .int .i64 t533, .int .i64 t534, .int .i64 t535, .bool t536], .int .i64 t503, .agg #[.int .i64 t504, .int .i64 t505], .int .i64 t506, .int .i64 t507, .bool t508] (wanted_on rfl rfl rfl (e113.trans (by first | rfl | (simp [*]; done)))) rfl rfl (by first | (simp only [List.map_toArray, List.map_cons, List.map_nil, Act.eval, Array.getD_eq_getD_getElem?, Option.getD_some, e114, e115, e116, e117, e118, e119, e113]; done) | (simp only [List.map_toArray, List.map_cons, List.map_nil, Act.eval, Array.getD_eq_getD_getElem?, Option.getD_some, e114, e115, e116, e117, e118, e119, e113]; rfl)) ?_
      with_reducible refine (impl_Covers.calls t530 t531 t532 t533 t534 t535 t536 t503 t504 t505 t506 t507 t508 t546 _ A62.out).mono ?_
      rintro e w76 ⟨rfl, hb⟩
      refine ⟨_, rfl, ?_⟩
      replace HO541 := am (Ko (rB HO541.out) hb)
      replace HO544 := am (Ko (rB HO544.out) hb)
      replace BK509 := am (Kb (bB BK509.out) hb)
      replace BK528 := am (Kb (bB BK528.out) hb)
      replace BK529 := am (Kb (bB BK529.out) hb)
      replace BK538 := am (Kb (bB BK538.out) hb)
      replace HB := am (Kh (sB HB.out) hb)
      (try clear hb)
      (try clear hb2)
      (try clear hk)
      (try clear hi)
      refine hK.out _ _ ⟨v540, v543, (by rw [ha.out]; exact putSel_upk 13 hb_ rfl rfl rfl), (bB BK509.out), (bB BK528.out), (bB BK529.out), (bB BK538.out), (sB HB.out), fun _ => (rB HO541.out), fun _ => (rB HO544.out)⟩
     refine steps_cons ?_ ?_
     ·rintro b a w' ⟨v540, v543, ha, Q_BK509, Q_BK528, Q_BK529, Q_BK538, Q_HB, Q_HO541, Q_HO544⟩ hb_ hon hoff
      refine ⟨_, rfl, fun K hK => ?_⟩
      have e11 := eo 11 ha
      have e113 := eu 113 6 ha (hon 8 (by kernel_rfl))
      replace ha := am ha
      have BK509 := am Q_BK509
      have BK528 := am Q_BK528
      have BK529 := am Q_BK529
      have BK538 := am Q_BK538
      have HB := am Q_HB
      have HO541 := am (Q_HO541 (hon 3 (by kernel_rfl)))
      have HO544 := am (Q_HO544 (hon 5 (by kernel_rfl)))
      have hc0_ : w'.cell? ⟨gb528, 0, none⟩ = some (.int .i64 t519) := (Kk BK528.out 0).trans rfl
      have hc1_ : w'.cell? ⟨gb528, 1, none⟩ = some (.int .i64 t520) := (Kk BK528.out 1).trans rfl
      have hc2_ : w'.cell? ⟨gb528, 2, none⟩ = some (.int .i64 t521) := (Kk BK528.out 2).trans rfl
      have hc3_ : w'.cell? ⟨gb528, 3, none⟩ = some (.int .i64 t522) := (Kk BK528.out 3).trans rfl
      have hc4_ : w'.cell? ⟨gb528, 4, none⟩ = some (.int .i64 t523) := (Kk BK528.out 4).trans rfl
      have hc5_ : w'.cell? ⟨gb528, 5, none⟩ = some (.int .i64 t524) := (Kk BK528.out 5).trans rfl
      have hc6_ : w'.cell? ⟨gb528, 6, none⟩ = some (.bool t525) := (Kk BK528.out 6).trans rfl
      refine value_ (w1 := w') (v := .agg #[.int .i64 t519, .int .i64 t520, .int .i64 t521, .int .i64 t522, .int .i64 t523, .int .i64 t524, .bool t525]) (wanted_on rfl rfl rfl (e113.trans (by first | rfl | (simp [*]; done)))) rfl ?_ ?_
      ·go_simp
       (try simp only [i64_w])
       try rfl
      refine hK.out _ _ ⟨v540, v543, (by rw [ha.out]; exact putSel_upk 14 hb_ rfl rfl rfl), Q_BK509, Q_BK528, Q_BK529, Q_BK538, Q_HB, Q_HO541, Q_HO544⟩
     refine steps_cons ?_ ?_
     ·rintro b a w' ⟨v540, v543, ha, Q_BK509, Q_BK528, Q_BK529, Q_BK538, Q_HB, Q_HO541, Q_HO544⟩ hb_ hon hoff
      refine ⟨_, rfl, fun K hK => ?_⟩
      have e5 := eo 5 ha
      have e113 := eu 113 6 ha (hon 8 (by kernel_rfl))
      replace ha := am ha
      have BK509 := am Q_BK509
      have BK528 := am Q_BK528
      have BK529 := am Q_BK529
      have BK538 := am Q_BK538
      have HB := am Q_HB
      have HO541 := am (Q_HO541 (hon 3 (by kernel_rfl)))
      have HO544 := am (Q_HO544 (hon 5 (by kernel_rfl)))
      refine value_ (w1 := w') (v := .int .i64 t503) (wanted_on rfl rfl rfl (e113.trans (by first | rfl | (simp [*]; done)))) rfl ?_ ?_
      ·go_simp
       (try simp only [i64_w])
       try rfl
      refine hK.out _ _ ⟨v540, v543, (by rw [ha.out]; exact putSel_upk 15 hb_ rfl rfl rfl), Q_BK509, Q_BK528, Q_BK529, Q_BK538, Q_HB, Q_HO541, Q_HO544⟩
     refine steps_cons ?_ ?_
     ·rintro b a w' ⟨v540, v543, ha, Q_BK509, Q_BK528, Q_BK529, Q_BK538, Q_HB, Q_HO541, Q_HO544⟩ hb_ hon hoff
      refine ⟨_, rfl, fun K hK => ?_⟩
      have e6 := eo 6 ha
      have e113 := eu 113 6 ha (hon 8 (by kernel_rfl))
      replace ha := am ha
      have BK509 := am Q_BK509
      have BK528 := am Q_BK528
      have BK529 := am Q_BK529
      have BK538 := am Q_BK538
      have HB := am Q_HB
      have HO541 := am (Q_HO541 (hon 3 (by kernel_rfl)))
      have HO544 := am (Q_HO544 (hon 5 (by kernel_rfl)))
      have hc0_ : w'.cell? ⟨gb509, 0, none⟩ = some (.int .i64 t504) := (Kk BK509.out 0).trans rfl
      have hc1_ : w'.cell? ⟨gb509, 1, none⟩ = some (.int .i64 t505) := (Kk BK509.out 1).trans rfl
      refine value_ (w1 := w') (v := .agg #[.int .i64 t504, .int .i64 t505]) (wanted_on rfl rfl rfl (e113.trans (by first | rfl | (simp [*]; done)))) rfl ?_ ?_
      ·go_simp
       (try simp only [i64_w])
       try rfl
      refine hK.out _ _ ⟨v540, v543, (by rw [ha.out]; exact putSel_upk 16 hb_ rfl rfl rfl), Q_BK509, Q_BK528, Q_BK529, Q_BK538, Q_HB, Q_HO541, Q_HO544⟩
     refine steps_cons ?_ ?_
     ·rintro b a w' ⟨v540, v543, ha, Q_BK509, Q_BK528, Q_BK529, Q_BK538, Q_HB, Q_HO541, Q_HO544⟩ hb_ hon hoff
      refine ⟨_, rfl, fun K hK => ?_⟩
      have e7 := eo 7 ha
      have e113 := eu 113 6 ha (hon 8 (by kernel_rfl))
      replace ha := am ha
      have BK509 := am Q_BK509
      have BK528 := am Q_BK528
      have BK529 := am Q_BK529
      have BK538 := am Q_BK538
      have HB := am Q_HB
      have HO541 := am (Q_HO541 (hon 3 (by kernel_rfl)))
      have HO544 := am (Q_HO544 (hon 5 (by kernel_rfl)))
      refine value_ (w1 := w') (v := .int .i64 t506) (wanted_on rfl rfl rfl (e113.trans (by first | rfl | (simp [*]; done)))) rfl ?_ ?_
      ·go_simp
       (try simp only [i64_w])
       try rfl
      refine hK.out _ _ ⟨v540, v543, (by rw [ha.out]; exact putSel_upk 17 hb_ rfl rfl rfl), Q_BK509, Q_BK528, Q_BK529, Q_BK538, Q_HB, Q_HO541, Q_HO544⟩
     refine steps_cons ?_ ?_
     ·rintro b a w' ⟨v540, v543, ha, Q_BK509, Q_BK528, Q_BK529, Q_BK538, Q_HB, Q_HO541, Q_HO544⟩ hb_ hon hoff
      refine ⟨_, rfl, fun K hK => ?_⟩
      have e8 := eo 8 ha
      have e113 := eu 113 6 ha (hon 8 (by kernel_rfl))
      replace ha := am ha
      have BK509 := am Q_BK509
      have BK528 := am Q_BK528
      have BK529 := am Q_BK529
      have BK538 := am Q_BK538
      have HB := am Q_HB
      have HO541 := am (Q_HO541 (hon 3 (by kernel_rfl)))
      have HO544 := am (Q_HO544 (hon 5 (by kernel_rfl)))
      refine value_ (w1 := w') (v := .int .i64 t507) (wanted_on rfl rfl rfl (e113.trans (by first | rfl | (simp [*]; done)))) rfl ?_ ?_
      ·go_simp
       (try simp only [i64_w])
       try rfl
      refine hK.out _ _ ⟨v540, v543, (by rw [ha.out]; exact putSel_upk 18 hb_ rfl rfl rfl), Q_BK509, Q_BK528, Q_BK529, Q_BK538, Q_HB, Q_HO541, Q_HO544⟩
     refine steps_cons ?_ ?_
     ·rintro b a w' ⟨v540, v543, ha, Q_BK509, Q_BK528, Q_BK529, Q_BK538, Q_HB, Q_HO541, Q_HO544⟩ hb_ hon hoff
      refine ⟨_, rfl, fun K hK => ?_⟩
      have e9 := eo 9 ha
      have e113 := eu 113 6 ha (hon 8 (by kernel_rfl))
      replace ha := am ha
      have BK509 := am Q_BK509
      have BK528 := am Q_BK528
      have BK529 := am Q_BK529
      have BK538 := am Q_BK538
      have HB := am Q_HB
      have HO541 := am (Q_HO541 (hon 3 (by kernel_rfl)))
      have HO544 := am (Q_HO544 (hon 5 (by kernel_rfl)))
      refine value_ (w1 := w') (v := .bool t508) (wanted_on rfl rfl rfl (e113.trans (by first | rfl | (simp [*]; done)))) rfl ?_ ?_
      ·go_simp
       (try simp only [i64_w])
       try rfl
      refine hK.out _ _ ⟨v540, v543, (by rw [ha.out]; exact putSel_upk 19 hb_ rfl rfl rfl), Q_BK509, Q_BK528, Q_BK529, Q_BK538, Q_HB, Q_HO541, Q_HO544⟩
     refine steps_cons ?_ ?_
     ·rintro b a w' ⟨v540, v543, ha, Q_BK509, Q_BK528, Q_BK529, Q_BK538, Q_HB, Q_HO541, Q_HO544⟩ hb_ hon hoff
      refine ⟨_, rfl, fun K hK => ?_⟩
      have e121 := eu 121 14 ha (hon 16 (by kernel_rfl))
      have e122 := eu 122 15 ha (hon 17 (by kernel_rfl))
      have e123 := eu 123 16 ha (hon 18 (by kernel_rfl))
      have e124 := eu 124 17 ha (hon 19 (by kernel_rfl))
      have e125 := eu 125 18 ha (hon 20 (by kernel_rfl))
      have e126 := eu 126 19 ha (hon 21 (by kernel_rfl))
      have e113 := eu 113 6 ha (hon 8 (by kernel_rfl))
      replace ha := am ha
      have BK509 := am Q_BK509
      have BK528 := am Q_BK528
      have BK529 := am Q_BK529
      have BK538 := am Q_BK538
      have HB := am Q_HB
      have HO541 := am (Q_HO541 (hon 3 (by kernel_rfl)))
      have HO544 := am (Q_HO544 (hon 5 (by kernel_rfl)))
      refine goes_ Try.func14 (by kernel_rfl) rfl #[.agg #[.int .i64 t519, .int .i64 t520, .int .i64 t521, .int .i64 t522, .int .i64 t523, .int .i64 t524, .bool t525], .int .i64 t503, .agg #[.int .i64 t504, .int .i64 t505], .int .i64 t506, .int .i64 t507, .bool t508] (wanted_on rfl rfl rfl (e113.trans (by first | rfl | (simp [*]; done)))) rfl rfl (by first | (simp only [List.map_toArray, List.map_cons, List.map_nil, Act.eval, Array.getD_eq_getD_getElem?, Option.getD_some, e121, e122, e123, e124, e125, e126, e113]; done) | (simp only [List.map_toArray, List.map_cons, List.map_nil, Act.eval, Array.getD_eq_getD_getElem?, Option.getD_some, e121, e122, e123, e124, e125, e126, e113]; rfl)) ?_
      with_reducible refine (impl_Covers.calls t519 t520 t521 t522 t523 t524 t525 t503 t504 t505 t506 t507 t508 true _ A63.out).mono ?_
      rintro e w77 ⟨rfl, hb⟩
      refine ⟨_, rfl, ?_⟩
      replace HO541 := am (Ko (rB HO541.out) hb)
      replace HO544 := am (Ko (rB HO544.out) hb)
      replace BK509 := am (Kb (bB BK509.out) hb)
      replace BK528 := am (Kb (bB BK528.out) hb)
      replace BK529 := am (Kb (bB BK529.out) hb)
      replace BK538 := am (Kb (bB BK538.out) hb)
      replace HB := am (Kh (sB HB.out) hb)
      (try clear hb)
      (try clear hb2)
      (try clear hk)
      (try clear hi)
      refine hK.out _ _ ⟨v540, v543, (by rw [ha.out]; exact putSel_upk 20 hb_ rfl rfl rfl), (bB BK509.out), (bB BK528.out), (bB BK529.out), (bB BK538.out), (sB HB.out), fun _ => (rB HO541.out), fun _ => (rB HO544.out)⟩
     refine steps_cons ?_ ?_
     ·rintro b a w' ⟨v540, v543, ha, Q_BK509, Q_BK528, Q_BK529, Q_BK538, Q_HB, Q_HO541, Q_HO544⟩ hb_ hon hoff
      refine ⟨_, rfl, fun K hK => ?_⟩
      have e127 := eu 127 20 ha (hon 22 (by kernel_rfl))
      have e113 := eu 113 6 ha (hon 8 (by kernel_rfl))
      replace ha := am ha
      have BK509 := am Q_BK509
      have BK528 := am Q_BK528
      have BK529 := am Q_BK529
      have BK538 := am Q_BK538
      have HB := am Q_HB
      have HO541 := am (Q_HO541 (hon 3 (by kernel_rfl)))
      have HO544 := am (Q_HO544 (hon 5 (by kernel_rfl)))
      refine value_ (w1 := w') (v := .bool true) (wanted_on rfl rfl rfl (e113.trans (by first | rfl | (simp [*]; done)))) rfl ?_ ?_
      ·go_simp
       (try simp only [i64_w])
       try rfl
      refine hK.out _ _ ⟨v540, v543, (by rw [ha.out]; exact putSel_upk 21 hb_ rfl rfl rfl), Q_BK509, Q_BK528, Q_BK529, Q_BK538, Q_HB, Q_HO541, Q_HO544⟩
     refine steps_cons ?_ ?_
     ·rintro b a w' ⟨v540, v543, ha, Q_BK509, Q_BK528, Q_BK529, Q_BK538, Q_HB, Q_HO541, Q_HO544⟩ hb_ hon hoff
      refine ⟨_, rfl, fun K hK => ?_⟩
      have e12 := eo 12 ha
      have e128 := eu 128 21 ha (hon 23 (by kernel_rfl))
      replace ha := am ha
      have BK509 := am Q_BK509
      have BK528 := am Q_BK528
      have BK529 := am Q_BK529
      have BK538 := am Q_BK538
      have HB := am Q_HB
      have HO541 := am (Q_HO541 (hon 3 (by kernel_rfl)))
      have HO544 := am (Q_HO544 (hon 5 (by kernel_rfl)))
      have hc0_ : w'.cell? ⟨gb529, 0, none⟩ = some (.int .i64 t526) := (Kk BK529.out 0).trans rfl
      have hc1_ : w'.cell? ⟨gb529, 1, none⟩ = some (.int .i64 t527) := (Kk BK529.out 1).trans rfl
      refine value_ (w1 := w') (v := .agg #[.int .i64 t526, .int .i64 t527]) (wanted_on rfl rfl rfl (e128.trans (by first | rfl | (simp [*]; done)))) rfl ?_ ?_
      ·go_simp
       (try simp only [i64_w])
       try rfl
      refine hK.out _ _ ⟨v540, v543, (by rw [ha.out]; exact putSel_upk 22 hb_ rfl rfl rfl), Q_BK509, Q_BK528, Q_BK529, Q_BK538, Q_HB, Q_HO541, Q_HO544⟩
     refine steps_cons ?_ ?_
     ·rintro b a w' ⟨v540, v543, ha, Q_BK509, Q_BK528, Q_BK529, Q_BK538, Q_HB, Q_HO541, Q_HO544⟩ hb_ hon hoff
      refine ⟨_, rfl, fun K hK => ?_⟩
      have e6 := eo 6 ha
      have e128 := eu 128 21 ha (hon 23 (by kernel_rfl))
      replace ha := am ha
      have BK509 := am Q_BK509
      have BK528 := am Q_BK528
      have BK529 := am Q_BK529
      have BK538 := am Q_BK538
      have HB := am Q_HB
      have HO541 := am (Q_HO541 (hon 3 (by kernel_rfl)))
      have HO544 := am (Q_HO544 (hon 5 (by kernel_rfl)))
      have hc0_ : w'.cell? ⟨gb509, 0, none⟩ = some (.int .i64 t504) := (Kk BK509.out 0).trans rfl
      have hc1_ : w'.cell? ⟨gb509, 1, none⟩ = some (.int .i64 t505) := (Kk BK509.out 1).trans rfl
      refine value_ (w1 := w') (v := .agg #[.int .i64 t504, .int .i64 t505]) (wanted_on rfl rfl rfl (e128.trans (by first | rfl | (simp [*]; done)))) rfl ?_ ?_
      ·go_simp
       (try simp only [i64_w])
       try rfl
      refine hK.out _ _ ⟨v540, v543, (by rw [ha.out]; exact putSel_upk 23 hb_ rfl rfl rfl), Q_BK509, Q_BK528, Q_BK529, Q_BK538, Q_HB, Q_HO541, Q_HO544⟩
     refine steps_cons ?_ ?_
     ·rintro b a w' ⟨v540, v543, ha, Q_BK509, Q_BK528, Q_BK529, Q_BK538, Q_HB, Q_HO541, Q_HO544⟩ hb_ hon hoff
      refine ⟨_, rfl, fun K hK => ?_⟩
      have e129 := eu 129 22 ha (hon 24 (by kernel_rfl))
      have e130 := eu 130 23 ha (hon 25 (by kernel_rfl))
      have e128 := eu 128 21 ha (hon 23 (by kernel_rfl))
      replace ha := am ha
      have BK509 := am Q_BK509
      have BK528 := am Q_BK528
      have BK529 := am Q_BK529
      have BK538 := am Q_BK538
      have HB := am Q_HB
      have HO541 := am (Q_HO541 (hon 3 (by kernel_rfl)))
      have HO544 := am (Q_HO544 (hon 5 (by kernel_rfl)))
      refine goes_ Try.func15 (by kernel_rfl) rfl #[.agg #[.int .i64 t526, .int .i64 t527], .agg #[.int .i64 t504, .int .i64 t505]] (wanted_on rfl rfl rfl (e128.trans (by first | rfl | (simp [*]; done)))) rfl rfl (by first | (simp only [List.map_toArray, List.map_cons, List.map_nil, Act.eval, Array.getD_eq_getD_getElem?, Option.getD_some, e129, e130, e128]; done) | (simp only [List.map_toArray, List.map_cons, List.map_nil, Act.eval, Array.getD_eq_getD_getElem?, Option.getD_some, e129, e130, e128]; rfl)) ?_
      with_reducible refine (impl_MatchSite.calls t526 t527 t504 t505 t548 _ A65.out).mono ?_
      rintro e w78 ⟨rfl, hb⟩
      refine ⟨_, rfl, ?_⟩
      replace HO541 := am (Ko (rB HO541.out) hb)
      replace HO544 := am (Ko (rB HO544.out) hb)
      replace BK509 := am (Kb (bB BK509.out) hb)
      replace BK528 := am (Kb (bB BK528.out) hb)
      replace BK529 := am (Kb (bB BK529.out) hb)
      replace BK538 := am (Kb (bB BK538.out) hb)
      replace HB := am (Kh (sB HB.out) hb)
      (try clear hb)
      (try clear hb2)
      (try clear hk)
      (try clear hi)
      refine hK.out _ _ ⟨v540, v543, (by rw [ha.out]; exact putSel_upk 24 hb_ rfl rfl rfl), (bB BK509.out), (bB BK528.out), (bB BK529.out), (bB BK538.out), (sB HB.out), fun _ => (rB HO541.out), fun _ => (rB HO544.out)⟩
     refine steps_cons ?_ ?_
     ·rintro b a w' ⟨v540, v543, ha, Q_BK509, Q_BK528, Q_BK529, Q_BK538, Q_HB, Q_HO541, Q_HO544⟩ hb_ hon hoff
      refine ⟨_, rfl, fun K hK => ?_⟩
      have e128 := eu 128 21 ha (hon 23 (by kernel_rfl))
      have e131 := eu 131 24 ha (hon 26 (by kernel_rfl))
      have e113 := eu 113 6 ha (hon 8 (by kernel_rfl))
      replace ha := am ha
      have BK509 := am Q_BK509
      have BK528 := am Q_BK528
      have BK529 := am Q_BK529
      have BK538 := am Q_BK538
      have HB := am Q_HB
      have HO541 := am (Q_HO541 (hon 3 (by kernel_rfl)))
      have HO544 := am (Q_HO544 (hon 5 (by kernel_rfl)))
      refine value_ (w1 := w') (v := .bool t548) (wanted_on rfl rfl rfl (e113.trans (by first | rfl | (simp [*]; done)))) rfl ?_ ?_
      ·go_simp
       (try simp only [i64_w])
       try rfl
      refine hK.out _ _ ⟨v540, v543, (by rw [ha.out]; exact putSel_upk 25 hb_ rfl rfl rfl), Q_BK509, Q_BK528, Q_BK529, Q_BK538, Q_HB, Q_HO541, Q_HO544⟩
     refine steps_cons ?_ ?_
     ·rintro b a w' ⟨v540, v543, ha, Q_BK509, Q_BK528, Q_BK529, Q_BK538, Q_HB, Q_HO541, Q_HO544⟩ hb_ hon hoff
      refine ⟨_, rfl, fun K hK => ?_⟩
      have e120 := eu 120 13 ha (hon 15 (by kernel_rfl))
      have e132 := eu 132 25 ha (hon 27 (by kernel_rfl))
      have e113 := eu 113 6 ha (hon 8 (by kernel_rfl))
      replace ha := am ha
      have BK509 := am Q_BK509
      have BK528 := am Q_BK528
      have BK529 := am Q_BK529
      have BK538 := am Q_BK538
      have HB := am Q_HB
      have HO541 := am (Q_HO541 (hon 3 (by kernel_rfl)))
      have HO544 := am (Q_HO544 (hon 5 (by kernel_rfl)))
      refine value_ (w1 := w') (v := .bool (t546 != t548)) (wanted_on rfl rfl rfl (e113.trans (by first | rfl | (simp [*]; done)))) rfl ?_ ?_
      ·go_simp
       (try simp only [i64_w])
       first | done | rfl | (cases t546 <;> (try cases t548) <;> rfl)
      refine hK.out _ _ ⟨v540, v543, (by rw [ha.out]; exact putSel_upk 26 hb_ rfl rfl rfl), Q_BK509, Q_BK528, Q_BK529, Q_BK538, Q_HB, Q_HO541, Q_HO544⟩
     refine steps_cons ?_ ?_
     ·rintro b a w' ⟨v540, v543, ha, Q_BK509, Q_BK528, Q_BK529, Q_BK538, Q_HB, Q_HO541, Q_HO544⟩ hb_ hon hoff
      refine ⟨_, rfl, fun K hK => ?_⟩
      have e113 := eu 113 6 ha (hon 8 (by kernel_rfl))
      have e133 := eu 133 26 ha (hon 28 (by kernel_rfl))
      have e106 := eo 106 ha
      replace ha := am ha
      have BK509 := am Q_BK509
      have BK528 := am Q_BK528
      have BK529 := am Q_BK529
      have BK538 := am Q_BK538
      have HB := am Q_HB
      have HO541 := am (Q_HO541 (hon 3 (by kernel_rfl)))
      have HO544 := am (Q_HO544 (hon 5 (by kernel_rfl)))
      refine value_ (w1 := w') (v := .bool (t546 != t548)) (wanted_on rfl rfl rfl (e106.trans (by first | rfl | (simp [*]; done)))) rfl ?_ ?_
      ·go_simp
       (try simp only [i64_w])
       first | done | rfl | (cases t546 <;> (try cases t548) <;> rfl)
      refine hK.out _ _ ⟨v540, v543, (by rw [ha.out]; exact putSel_upk 27 hb_ rfl rfl rfl), Q_BK509, Q_BK528, Q_BK529, Q_BK538, Q_HB, Q_HO541, Q_HO544⟩
     refine steps_cons ?_ ?_
     ·rintro b a w' ⟨v540, v543, ha, Q_BK509, Q_BK528, Q_BK529, Q_BK538, Q_HB, Q_HO541, Q_HO544⟩ hb_ hon hoff
      refine ⟨_, rfl, fun K hK => ?_⟩
      have e106 := eo 106 ha
      have e134 := eu 134 27 ha (hon 29 (by kernel_rfl))
      replace ha := am ha
      have BK509 := am Q_BK509
      have BK528 := am Q_BK528
      have BK529 := am Q_BK529
      have BK538 := am Q_BK538
      have HB := am Q_HB
      have HO541 := am (Q_HO541 (hon 3 (by kernel_rfl)))
      have HO544 := am (Q_HO544 (hon 5 (by kernel_rfl)))
      refine value_ (w1 := w') (v := .bool (t546 != t548)) (by rfl) rfl ?_ ?_
      ·go_simp
       (try simp only [i64_w])
       first | done | rfl | (cases t546 <;> (try cases t548) <;> rfl)
      refine hK.out _ _ ⟨v540, v543, (by rw [ha.out]; exact putSel_upk 28 hb_ rfl rfl rfl), Q_BK509, Q_BK528, Q_BK529, Q_BK538, Q_HB, Q_HO541, Q_HO544⟩
     exact steps_nil
    rintro b a w78 hall ⟨v540, v543, ha, Q_BK509, Q_BK528, Q_BK529, Q_BK538, Q_HB, Q_HO541, Q_HO544⟩
    clear BK509 BK528 BK529 BK538 HB
    have hb2_ := hall 2 (by kernel_rfl)
    have hb3_ := hall 3 (by kernel_rfl)
    have hb4_ := hall 4 (by kernel_rfl)
    have hb5_ := hall 5 (by kernel_rfl)
    have hb6_ := hall 6 (by kernel_rfl)
    have hb7_ := hall 7 (by kernel_rfl)
    have hb8_ := hall 8 (by kernel_rfl)
    have hb9_ := hall 9 (by kernel_rfl)
    have hb10_ := hall 10 (by kernel_rfl)
    have hb11_ := hall 11 (by kernel_rfl)
    have hb12_ := hall 12 (by kernel_rfl)
    have hb13_ := hall 13 (by kernel_rfl)
    have hb14_ := hall 14 (by kernel_rfl)
    have hb15_ := hall 15 (by kernel_rfl)
    have hb16_ := hall 16 (by kernel_rfl)
    have hb17_ := hall 17 (by kernel_rfl)
    have hb18_ := hall 18 (by kernel_rfl)
    have hb19_ := hall 19 (by kernel_rfl)
    have hb20_ := hall 20 (by kernel_rfl)
    have hb21_ := hall 21 (by kernel_rfl)
    have hb22_ := hall 22 (by kernel_rfl)
    have hb23_ := hall 23 (by kernel_rfl)
    have hb24_ := hall 24 (by kernel_rfl)
    have hb25_ := hall 25 (by kernel_rfl)
    have hb26_ := hall 26 (by kernel_rfl)
    have hb27_ := hall 27 (by kernel_rfl)
    have hb28_ := hall 28 (by kernel_rfl)
    have hb29_ := hall 29 (by kernel_rfl)
    have hb30_ := hall 30 (by kernel_rfl)
    subst ha
    simp only [putSel, hb2_, hb3_, hb4_, hb5_, hb6_, hb7_, hb8_, hb9_, hb10_, hb11_, hb12_, hb13_, hb14_, hb15_, hb16_, hb17_, hb18_, hb19_, hb20_, hb21_, hb22_, hb23_, hb24_, hb25_, hb26_, hb27_, hb28_, hb29_, hb30_, if_true, Act.put, List.setIfInBounds_toArray, List.set_cons_zero, List.set_cons_succ]
    have BK509 := am Q_BK509
    clear Q_BK509
    have BK528 := am Q_BK528
    clear Q_BK528
    have BK529 := am Q_BK529
    clear Q_BK529
    have BK538 := am Q_BK538
    clear Q_BK538
    have HB := am Q_HB
    clear Q_HB
    have HO541 := am (Q_HO541 hb3_)
    clear Q_HO541
    have HO544 := am (Q_HO544 hb5_)
    clear Q_HO544
    clear hall hb2_ hb3_ hb4_ hb5_ hb6_ hb7_ hb8_ hb9_ hb10_ hb11_ hb12_ hb13_ hb14_ hb15_ hb16_ hb17_ hb18_ hb19_ hb20_ hb21_ hb22_ hb23_ hb24_ hb25_ hb26_ hb27_ hb28_ hb29_ hb30_
    try go_wp2
    go_meet
    case rel => exact ⟨_, ((t546 != t548)), (by first | rfl | (simp; done) | (simp [*]; done)), H', ⟨by have := HJ8.out; first | omega | exact Nat.le_refl _⟩, ⟨bB BK509.out⟩, ⟨bB BK528.out⟩, ⟨bB BK529.out⟩, ⟨bB BK538.out⟩, ⟨sB HB.out⟩⟩
   ·replace c64 := bF c64
    subst c64
    replace H := hF H
    have H' := am H
    clear H
    try go_wp2
    have n0_ : Aside0 ((((((((w54.setCell ⟨gb538, 0, none⟩ (.int .i64 t530)).setCell ⟨gb538, 1, none⟩ (.int .i64 t531)).setCell ⟨gb538, 2, none⟩ (.int .i64 t532)).setCell ⟨gb538, 3, none⟩ (.int .i64 t533)).setCell ⟨gb538, 4, none⟩ (.int .i64 t534)).setCell ⟨gb538, 5, none⟩ (.int .i64 t535)).setCell ⟨gb538, 6, none⟩ (.bool t536)).heap[gb509]? = some (.cells #[.int .i64 t504, .int .i64 t505] 27 (0, 0))) := ⟨by refine bB ?_; refine blk_far ?_ NB509_538.out _; refine bB ?_; refine blk_far ?_ NB509_538.out _; refine bB ?_; refine blk_far ?_ NB509_538.out _; refine bB ?_; refine blk_far ?_ NB509_538.out _; refine bB ?_; refine blk_far ?_ NB509_538.out _; refine bB ?_; refine blk_far ?_ NB509_538.out _; refine bB ?_; refine blk_far ?_ NB509_538.out _; refine bB ?_; exact BK509.out⟩
    have n1_ : Aside0 ((((((((w54.setCell ⟨gb538, 0, none⟩ (.int .i64 t530)).setCell ⟨gb538, 1, none⟩ (.int .i64 t531)).setCell ⟨gb538, 2, none⟩ (.int .i64 t532)).setCell ⟨gb538, 3, none⟩ (.int .i64 t533)).setCell ⟨gb538, 4, none⟩ (.int .i64 t534)).setCell ⟨gb538, 5, none⟩ (.int .i64 t535)).setCell ⟨gb538, 6, none⟩ (.bool t536)).heap[gb528]? = some (.cells #[.int .i64 t519, .int .i64 t520, .int .i64 t521, .int .i64 t522, .int .i64 t523, .int .i64 t524, .bool t525] 35 (0, 0))) := ⟨by refine bB ?_; refine blk_far ?_ NB528_538.out _; refine bB ?_; refine blk_far ?_ NB528_538.out _; refine bB ?_; refine blk_far ?_ NB528_538.out _; refine bB ?_; refine blk_far ?_ NB528_538.out _; refine bB ?_; refine blk_far ?_ NB528_538.out _; refine bB ?_; refine blk_far ?_ NB528_538.out _; refine bB ?_; refine blk_far ?_ NB528_538.out _; refine bB ?_; exact BK528.out⟩
    have n2_ : Aside0 ((((((((w54.setCell ⟨gb538, 0, none⟩ (.int .i64 t530)).setCell ⟨gb538, 1, none⟩ (.int .i64 t531)).setCell ⟨gb538, 2, none⟩ (.int .i64 t532)).setCell ⟨gb538, 3, none⟩ (.int .i64 t533)).setCell ⟨gb538, 4, none⟩ (.int .i64 t534)).setCell ⟨gb538, 5, none⟩ (.int .i64 t535)).setCell ⟨gb538, 6, none⟩ (.bool t536)).heap[gb529]? = some (.cells #[.int .i64 t526, .int .i64 t527] 33 (0, 0))) := ⟨by refine bB ?_; refine blk_far ?_ NB529_538.out _; refine bB ?_; refine blk_far ?_ NB529_538.out _; refine bB ?_; refine blk_far ?_ NB529_538.out _; refine bB ?_; refine blk_far ?_ NB529_538.out _; refine bB ?_; refine blk_far ?_ NB529_538.out _; refine bB ?_; refine blk_far ?_ NB529_538.out _; refine bB ?_; refine blk_far ?_ NB529_538.out _; refine bB ?_; exact BK529.out⟩
    have n3_ : Aside0 ((((((((w54.setCell ⟨gb538, 0, none⟩ (.int .i64 t530)).setCell ⟨gb538, 1, none⟩ (.int .i64 t531)).setCell ⟨gb538, 2, none⟩ (.int .i64 t532)).setCell ⟨gb538, 3, none⟩ (.int .i64 t533)).setCell ⟨gb538, 4, none⟩ (.int .i64 t534)).setCell ⟨gb538, 5, none⟩ (.int .i64 t535)).setCell ⟨gb538, 6, none⟩ (.bool t536)).heap[gb538]? = some (.cells #[.int .i64 t530, .int .i64 t531, .int .i64 t532, .int .i64 t533, .int .i64 t534, .int .i64 t535, .bool t536] 35 (0, 0))) := ⟨by refine bB ?_; refine Kg (cs := #[.int .i64 t530, .int .i64 t531, .int .i64 t532, .int .i64 t533, .int .i64 t534, .int .i64 t535, .bool false]) ?_ 6 _ rfl; refine bB ?_; refine Kg (cs := #[.int .i64 t530, .int .i64 t531, .int .i64 t532, .int .i64 t533, .int .i64 t534, .int .i64 0, .bool false]) ?_ 5 _ rfl; refine bB ?_; refine Kg (cs := #[.int .i64 t530, .int .i64 t531, .int .i64 t532, .int .i64 t533, .int .i64 0, .int .i64 0, .bool false]) ?_ 4 _ rfl; refine bB ?_; refine Kg (cs := #[.int .i64 t530, .int .i64 t531, .int .i64 t532, .int .i64 0, .int .i64 0, .int .i64 0, .bool false]) ?_ 3 _ rfl; refine bB ?_; refine Kg (cs := #[.int .i64 t530, .int .i64 t531, .int .i64 0, .int .i64 0, .int .i64 0, .int .i64 0, .bool false]) ?_ 2 _ rfl; refine bB ?_; refine Kg (cs := #[.int .i64 t530, .int .i64 0, .int .i64 0, .int .i64 0, .int .i64 0, .int .i64 0, .bool false]) ?_ 1 _ rfl; refine bB ?_; refine Kg (cs := #[.int .i64 0, .int .i64 0, .int .i64 0, .int .i64 0, .int .i64 0, .int .i64 0, .bool false]) ?_ 0 _ rfl; refine bB ?_; exact BK538.out⟩
    have n4_ : Aside0 (Below w.heap.size w (((((((w54.setCell ⟨gb538, 0, none⟩ (.int .i64 t530)).setCell ⟨gb538, 1, none⟩ (.int .i64 t531)).setCell ⟨gb538, 2, none⟩ (.int .i64 t532)).setCell ⟨gb538, 3, none⟩ (.int .i64 t533)).setCell ⟨gb538, 4, none⟩ (.int .i64 t534)).setCell ⟨gb538, 5, none⟩ (.int .i64 t535)).setCell ⟨gb538, 6, none⟩ (.bool t536))) := ⟨sB HB.out⟩
    (try clear BK509)
    (try clear BK528)
    (try clear BK529)
    (try clear BK538)
    (try clear HB)
    generalize (((((((w54.setCell ⟨gb538, 0, none⟩ (.int .i64 t530)).setCell ⟨gb538, 1, none⟩ (.int .i64 t531)).setCell ⟨gb538, 2, none⟩ (.int .i64 t532)).setCell ⟨gb538, 3, none⟩ (.int .i64 t533)).setCell ⟨gb538, 4, none⟩ (.int .i64 t534)).setCell ⟨gb538, 5, none⟩ (.int .i64 t535)).setCell ⟨gb538, 6, none⟩ (.bool t536)) = w79 at n0_ n1_ n2_ n3_ n4_ ⊢
    have BK509 := n0_
    have BK528 := n1_
    have BK529 := n2_
    have BK538 := n3_
    have HB := n4_
    clear n0_ n1_ n2_ n3_ n4_
    replace BK509 := am (blk_drew BK509.out)
    replace BK528 := am (blk_drew BK528.out)
    replace BK529 := am (blk_drew BK529.out)
    replace BK538 := am (blk_drew BK538.out)
    replace HB := am (Ks HB.out)
    refine start_ (n := 31) (S := fun w' => True) (ds := []) #[z,z,z,z,z,z,z,z,z,z,z,z,z,z,z,z,z,z,z,z,z,z,z,z,z,z,z,z,z,z,z] (by kernel_rfl) rfl rfl trivial (fun hHeld => ?_); refine with_tabW laws_FnNarrowed.tab11 laws_FnNarrowed.bits11 (fun HT_ HW_ => ?_)
    generalize w79.drew = w80 at BK509 BK528 BK529 BK538 HB hHeld ⊢
    refine pu 0 105 #[o,z,z,z,z,z,z,z,z,z,z,z,z,z,z,z,z,z,z,z,z,z,z,z,z,z,z,z,z,z,z] HT_ ?_
    refine pu 1 106 #[o,o,z,z,z,z,z,z,z,z,z,z,z,z,z,z,z,z,z,z,z,z,z,z,z,z,z,z,z,z,z] HT_ ?_
    refine inv_at [2, 3, 4, 5, 6, 7, 8, 9, 10, 11, 12, 13, 14, 15, 16, 17, 18, 19, 20, 21, 22, 23, 24, 25, 26, 27, 28, 29, 30] (fun a0_ b a w' => ∃ (v540 : Value) (v543 : Value), a = putSel a0_ b [(2, 107, .agg #[.int .i64 t530, .int .i64 t531, .int .i64 t532, .int .i64 t533, .int .i64 t534, .int .i64 t535, .bool t536]), (3, 108, v540), (4, 109, .agg #[.int .i64 t519, .int .i64 t520, .int .i64 t521, .int .i64 t522, .int .i64 t523, .int .i64 t524, .bool t525]), (5, 110, v543), (6, 111, .bool true), (7, 112, .bool (!true)), (8, 113, .bool (!true)), (9, 114, .agg #[.int .i64 t530, .int .i64 t531, .int .i64 t532, .int .i64 t533, .int .i64 t534, .int .i64 t535, .bool t536]), (10, 115, .int .i64 t503), (11, 116, .agg #[.int .i64 t504, .int .i64 t505]), (12, 117, .int .i64 t506), (13, 118, .int .i64 t507), (14, 119, .bool t508), (15, 120, .bool t546), (16, 121, .agg #[.int .i64 t519, .int .i64 t520, .int .i64 t521, .int .i64 t522, .int .i64 t523, .int .i64 t524, .bool t525]), (17, 122, .int .i64 t503), (18, 123, .agg #[.int .i64 t504, .int .i64 t505]), (19, 124, .int .i64 t506), (20, 125, .int .i64 t507), (21, 126, .bool t508), (22, 127, .bool false), (23, 128, .bool false), (24, 129, undef), (25, 130, undef), (26, 131, undef), (27, 132, .bool false), (28, 133, .bool (t546 != false)), (29, 134, .bool (t546 != false)), (30, 135, .bool (t546 != false))] ∧ (w'.heap[gb509]? = some (.cells #[.int .i64 t504, .int .i64 t505] 27 (0, 0))) ∧ (w'.heap[gb528]? = some (.cells #[.int .i64 t519, .int .i64 t520, .int .i64 t521, .int .i64 t522, .int .i64 t523, .int .i64 t524, .bool t525] 35 (0, 0))) ∧ (w'.heap[gb529]? = some (.cells #[.int .i64 t526, .int .i64 t527] 33 (0, 0))) ∧ (w'.heap[gb538]? = some (.cells #[.int .i64 t530, .int .i64 t531, .int .i64 t532, .int .i64 t533, .int .i64 t534, .int .i64 t535, .bool t536] 35 (0, 0))) ∧ (Below w.heap.size w w') ∧ (b 3 = true → Kd.R k35 35 w' w.heap.size (fun k_ => k_ ≠ gb528 ∧ k_ ≠ gb538) v540 y539) ∧ (b 5 = true → Kd.R k35 35 w' w.heap.size (fun k_ => k_ ≠ gb528 ∧ k_ ≠ gb538) v543 y542)) HT_.out HW_.out (by kernel_rfl) (by kernel_rfl) ?_ ?_ ?_
    ·exact ⟨.bool false, .bool false, by simp only [putSel, Bool.false_eq_true, if_false], BK509.out, BK528.out, BK529.out, BK538.out, HB.out, fun h_ => absurd h_ (by decide), fun h_ => absurd h_ (by decide)⟩
    ·skip
     clear BK509 BK528 BK529 BK538 HB
     refine steps_cons ?_ ?_
     ·rintro b a w' ⟨v540, v543, ha, Q_BK509, Q_BK528, Q_BK529, Q_BK538, Q_HB, Q_HO541, Q_HO544⟩ hb_ hon hoff
      refine ⟨_, rfl, fun K hK => ?_⟩
      have e13 := eo 13 ha
      have e106 := eo 106 ha
      replace ha := am ha
      have BK509 := am Q_BK509
      have BK528 := am Q_BK528
      have BK529 := am Q_BK529
      have BK538 := am Q_BK538
      have HB := am Q_HB
      have hc0_ : w'.cell? ⟨gb538, 0, none⟩ = some (.int .i64 t530) := (Kk BK538.out 0).trans rfl
      have hc1_ : w'.cell? ⟨gb538, 1, none⟩ = some (.int .i64 t531) := (Kk BK538.out 1).trans rfl
      have hc2_ : w'.cell? ⟨gb538, 2, none⟩ = some (.int .i64 t532) := (Kk BK538.out 2).trans rfl
      have hc3_ : w'.cell? ⟨gb538, 3, none⟩ = some (.int .i64 t533) := (Kk BK538.out 3).trans rfl
      have hc4_ : w'.cell? ⟨gb538, 4, none⟩ = some (.int .i64 t534) := (Kk BK538.out 4).trans rfl
      have hc5_ : w'.cell? ⟨gb538, 5, none⟩ = some (.int .i64 t535) := (Kk BK538.out 5).trans rfl
      have hc6_ : w'.cell? ⟨gb538, 6, none⟩ = some (.bool t536) := (Kk BK538.out 6).trans rfl
      refine value_ (w1 := w') (v := .agg #[.int .i64 t530, .int .i64 t531, .int .i64 t532, .int .i64 t533, .int .i64 t534, .int .i64 t535, .bool t536]) (wanted_on rfl rfl rfl (e106.trans (by first | rfl | (simp [*]; done)))) rfl ?_ ?_
      ·go_simp
       (try simp only [i64_w])
       try rfl
      refine hK.out _ _ ⟨v540, v543, (by rw [ha.out]; exact putSel_upk 0 hb_ rfl rfl rfl), Q_BK509, Q_BK528, Q_BK529, Q_BK538, Q_HB, fun h0_ => absurd ((hoff 3 (by kernel_rfl)).symm.trans h0_) (by decide), Q_HO544⟩
     refine steps_cons ?_ ?_
     ·rintro b a w' ⟨v540, v543, ha, Q_BK509, Q_BK528, Q_BK529, Q_BK538, Q_HB, Q_HO541, Q_HO544⟩ hb_ hon hoff
      refine ⟨_, rfl, fun K hK => ?_⟩
      have e107 := eu 107 0 ha (hon 2 (by kernel_rfl))
      have e106 := eo 106 ha
      replace ha := am ha
      have BK509 := am Q_BK509
      have BK528 := am Q_BK528
      have BK529 := am Q_BK529
      have BK538 := am Q_BK538
      have HB := am Q_HB
      refine Kd.R_lit_step k35 _ 35 ?hg (N := 108) ?hd (xs := ([(⟨t530, (⟨t531, t532⟩ : S33), t533, t534, t535, t536⟩ : S35)] : List (S35))) (inner := [.int .i64 t530, .int .i64 t531, .int .i64 t532, .int .i64 t533, .int .i64 t534, .int .i64 t535, .bool t536]) (ok := fun _ => True) (okp := fun _ => True) ?hr ?hp (fun _ hk => hk) trivial (Below.refl _ _) (Nat.le_refl _) (by simp) ?_; (case hd => rfl); (case hg => exact wanted_on rfl rfl rfl (e106.trans (by first | rfl | (simp [*]; done)))); (case hr => first | (go_simp; done) | (go_simp; rfl)); (case hp => exact (Reps.c7 (show Kd.M k35 _ _ _ (⟨t530, (⟨t531, t532⟩ : S33), t533, t534, t535, t536⟩ : S35) [.int .i64 t530, .int .i64 t531, .int .i64 t532, .int .i64 t533, .int .i64 t534, .int .i64 t535, .bool t536] from (k35_mkM _ _ _ (⟨t530, (⟨t531, t532⟩ : S33), t533, t534, t535, t536⟩ : S35) )) (Reps.none _ _)))
      intro v540 w81 ho82 hb hg_ hnew_
      clear hg_ hnew_
      (first | rw [← Ny539.out] at ho82 | (simp only [Int.reduceToNat] at ho82; rw [← Ny539.out] at ho82))
      have n0_ := am (Kd.R_lower (Kd.R_newB (Kd.R_newB ho82 (bB BK528.out)) (bB BK538.out)) (below_size (sB HB.out)))
      have n1_ := am (Kb (bB BK509.out) hb)
      have n2_ := am (Kb (bB BK528.out) hb)
      have n3_ := am (Kb (bB BK529.out) hb)
      have n4_ := am (Kb (bB BK538.out) hb)
      have n5_ := am (Kh (sB HB.out) hb)
      have z_HO544 := fun (h0_ : b 5 = true) => (show Kd.R k35 35 w81 w.heap.size (fun k_ => k_ ≠ gb528 ∧ k_ ≠ gb538) v543 y542 from by first | exact (Kd.R_elder' (by (with_reducible repeat (first | apply Kd.R_alloc | apply Kd.R_drewN | apply Kd.R_drew)); exact (Q_HO544 h0_)) (Kd.R_base ho82) hb) | exact Kt (Kd.R_elder' (by (with_reducible repeat (first | apply Kd.R_alloc | apply Kd.R_drewN | apply Kd.R_drew)); exact (Q_HO544 h0_)) (Kd.R_base ho82) hb) (fun _ h_ => by first | trivial | exact h_ | exact h_.1))
      clear BK509
      clear BK528
      clear BK529
      clear BK538
      clear HB
      have HO541 := n0_
      have BK509 := n1_
      have BK528 := n2_
      have BK529 := n3_
      have BK538 := n4_
      have HB := n5_
      clear n0_ n1_ n2_ n3_ n4_ n5_
      clear hb ho82
      refine hK.out _ _ ⟨v540, v543, (by rw [ha.out]; exact putSel_upk 1 hb_ rfl rfl rfl), (bB BK509.out), (bB BK528.out), (bB BK529.out), (bB BK538.out), (sB HB.out), fun _ => (by (with_reducible repeat (first | apply Kd.R_alloc | apply Kd.R_drewN | apply Kd.R_drew)); exact Kt HO541.out (fun _ hk => ⟨hk.1.2, hk.2⟩)), z_HO544⟩
     refine steps_cons ?_ ?_
     ·rintro b a w' ⟨v540, v543, ha, Q_BK509, Q_BK528, Q_BK529, Q_BK538, Q_HB, Q_HO541, Q_HO544⟩ hb_ hon hoff
      refine ⟨_, rfl, fun K hK => ?_⟩
      have e11 := eo 11 ha
      have e106 := eo 106 ha
      replace ha := am ha
      have BK509 := am Q_BK509
      have BK528 := am Q_BK528
      have BK529 := am Q_BK529
      have BK538 := am Q_BK538
      have HB := am Q_HB
      have hc0_ : w'.cell? ⟨gb528, 0, none⟩ = some (.int .i64 t519) := (Kk BK528.out 0).trans rfl
      have hc1_ : w'.cell? ⟨gb528, 1, none⟩ = some (.int .i64 t520) := (Kk BK528.out 1).trans rfl
      have hc2_ : w'.cell? ⟨gb528, 2, none⟩ = some (.int .i64 t521) := (Kk BK528.out 2).trans rfl
      have hc3_ : w'.cell? ⟨gb528, 3, none⟩ = some (.int .i64 t522) := (Kk BK528.out 3).trans rfl
      have hc4_ : w'.cell? ⟨gb528, 4, none⟩ = some (.int .i64 t523) := (Kk BK528.out 4).trans rfl
      have hc5_ : w'.cell? ⟨gb528, 5, none⟩ = some (.int .i64 t524) := (Kk BK528.out 5).trans rfl
      have hc6_ : w'.cell? ⟨gb528, 6, none⟩ = some (.bool t525) := (Kk BK528.out 6).trans rfl
      refine value_ (w1 := w') (v := .agg #[.int .i64 t519, .int .i64 t520, .int .i64 t521, .int .i64 t522, .int .i64 t523, .int .i64 t524, .bool t525]) (wanted_on rfl rfl rfl (e106.trans (by first | rfl | (simp [*]; done)))) rfl ?_ ?_
      ·go_simp
       (try simp only [i64_w])
       try rfl
      refine hK.out _ _ ⟨v540, v543, (by rw [ha.out]; exact putSel_upk 2 hb_ rfl rfl rfl), Q_BK509, Q_BK528, Q_BK529, Q_BK538, Q_HB, Q_HO541, fun h0_ => absurd ((hoff 5 (by kernel_rfl)).symm.trans h0_) (by decide)⟩
     refine steps_cons ?_ ?_
     ·rintro b a w' ⟨v540, v543, ha, Q_BK509, Q_BK528, Q_BK529, Q_BK538, Q_HB, Q_HO541, Q_HO544⟩ hb_ hon hoff
      refine ⟨_, rfl, fun K hK => ?_⟩
      have e109 := eu 109 2 ha (hon 4 (by kernel_rfl))
      have e106 := eo 106 ha
      replace ha := am ha
      have BK509 := am Q_BK509
      have BK528 := am Q_BK528
      have BK529 := am Q_BK529
      have BK538 := am Q_BK538
      have HB := am Q_HB
      refine Kd.R_lit_step k35 _ 35 ?hg (N := 110) ?hd (xs := ([(⟨t519, (⟨t520, t521⟩ : S33), t522, t523, t524, t525⟩ : S35)] : List (S35))) (inner := [.int .i64 t519, .int .i64 t520, .int .i64 t521, .int .i64 t522, .int .i64 t523, .int .i64 t524, .bool t525]) (ok := fun _ => True) (okp := fun _ => True) ?hr ?hp (fun _ hk => hk) trivial (Below.refl _ _) (Nat.le_refl _) (by simp) ?_; (case hd => rfl); (case hg => exact wanted_on rfl rfl rfl (e106.trans (by first | rfl | (simp [*]; done)))); (case hr => first | (go_simp; done) | (go_simp; rfl)); (case hp => exact (Reps.c7 (show Kd.M k35 _ _ _ (⟨t519, (⟨t520, t521⟩ : S33), t522, t523, t524, t525⟩ : S35) [.int .i64 t519, .int .i64 t520, .int .i64 t521, .int .i64 t522, .int .i64 t523, .int .i64 t524, .bool t525] from (k35_mkM _ _ _ (⟨t519, (⟨t520, t521⟩ : S33), t522, t523, t524, t525⟩ : S35) )) (Reps.none _ _)))
      intro v543 w81 ho82 hb hg_ hnew_
      clear hg_ hnew_
      (first | rw [← Ny542.out] at ho82 | (simp only [Int.reduceToNat] at ho82; rw [← Ny542.out] at ho82))
      have n0_ := am (Kd.R_lower (Kd.R_newB (Kd.R_newB ho82 (bB BK528.out)) (bB BK538.out)) (below_size (sB HB.out)))
      have n1_ := am (Kb (bB BK509.out) hb)
      have n2_ := am (Kb (bB BK528.out) hb)
      have n3_ := am (Kb (bB BK529.out) hb)
      have n4_ := am (Kb (bB BK538.out) hb)
      have n5_ := am (Kh (sB HB.out) hb)
      have z_HO541 := fun (h0_ : b 3 = true) => (show Kd.R k35 35 w81 w.heap.size (fun k_ => k_ ≠ gb528 ∧ k_ ≠ gb538) v540 y539 from by first | exact (Kd.R_elder' (by (with_reducible repeat (first | apply Kd.R_alloc | apply Kd.R_drewN | apply Kd.R_drew)); exact (Q_HO541 h0_)) (Kd.R_base ho82) hb) | exact Kt (Kd.R_elder' (by (with_reducible repeat (first | apply Kd.R_alloc | apply Kd.R_drewN | apply Kd.R_drew)); exact (Q_HO541 h0_)) (Kd.R_base ho82) hb) (fun _ h_ => by first | trivial | exact h_ | exact h_.1))
      clear BK509
      clear BK528
      clear BK529
      clear BK538
      clear HB
      have HO544 := n0_
      have BK509 := n1_
      have BK528 := n2_
      have BK529 := n3_
      have BK538 := n4_
      have HB := n5_
      clear n0_ n1_ n2_ n3_ n4_ n5_
      clear hb ho82
      refine hK.out _ _ ⟨v540, v543, (by rw [ha.out]; exact putSel_upk 3 hb_ rfl rfl rfl), (bB BK509.out), (bB BK528.out), (bB BK529.out), (bB BK538.out), (sB HB.out), z_HO541, fun _ => (by (with_reducible repeat (first | apply Kd.R_alloc | apply Kd.R_drewN | apply Kd.R_drew)); exact Kt HO544.out (fun _ hk => ⟨hk.1.2, hk.2⟩))⟩
     refine steps_cons ?_ ?_
     ·rintro b a w' ⟨v540, v543, ha, Q_BK509, Q_BK528, Q_BK529, Q_BK538, Q_HB, Q_HO541, Q_HO544⟩ hb_ hon hoff
      refine ⟨_, rfl, fun K hK => ?_⟩
      have e108 := eu 108 1 ha (hon 3 (by kernel_rfl))
      have e110 := eu 110 3 ha (hon 5 (by kernel_rfl))
      have e106 := eo 106 ha
      replace ha := am ha
      have BK509 := am Q_BK509
      have BK528 := am Q_BK528
      have BK529 := am Q_BK529
      have BK538 := am Q_BK538
      have HB := am Q_HB
      have HO541 := am (Q_HO541 (hon 3 (by kernel_rfl)))
      have HO544 := am (Q_HO544 (hon 5 (by kernel_rfl)))
      obtain ⟨Ao86, co86, eo86⟩ := Kd.R_slice HO541.out
      (first | subst eo86 | (injection eo86 with f1_ f2_ f3_; have f4_ := f1_.symm; have f5_ := f3_.symm; clear f1_ f2_ f3_; subst f4_; subst f5_))
      obtain ⟨Ao87, co87, eo87⟩ := Kd.R_slice HO544.out
      (first | subst eo87 | (injection eo87 with f1_ f2_ f3_; have f4_ := f1_.symm; have f5_ := f3_.symm; clear f1_ f2_ f3_; subst f4_; subst f5_))
      refine goes_ Try.func13 (by kernel_rfl) rfl #[.slice Ao86 y539.length co86, .slice Ao87 y542.length co87] (wanted_on rfl rfl rfl (e106.trans (by first | rfl | (simp [*]; done)))) rfl rfl (by first | (simp only [List.map_toArray, List.map_cons, List.map_nil, Act.eval, Array.getD_eq_getD_getElem?, Option.getD_some, e108, e110, e106]; done) | (simp only [List.map_toArray, List.map_cons, List.map_nil, Act.eval, Array.getD_eq_getD_getElem?, Option.getD_some, e108, e110, e106]; rfl)) ?_
      with_reducible refine (impl_IsWithinGrants.calls kj8 _ _ y539 _ _ y542 true _ ?side1 ?side2 ?side3 ?side4 A60.out).mono ?_
      (case side1 => exact cB ((Kq HO541.out).2.2))
      (case side2 => exact (Kq HO541.out).2.1)
      (case side3 => exact cB ((Kq HO544.out).2.2))
      (case side4 => exact (Kq HO544.out).2.1)
      rintro e w88 ⟨rfl, hb⟩
      refine ⟨_, rfl, ?_⟩
      replace HO541 := am (Ko (rB HO541.out) hb)
      replace HO544 := am (Ko (rB HO544.out) hb)
      replace BK509 := am (Kb (bB BK509.out) hb)
      replace BK528 := am (Kb (bB BK528.out) hb)
      replace BK529 := am (Kb (bB BK529.out) hb)
      replace BK538 := am (Kb (bB BK538.out) hb)
      replace HB := am (Kh (sB HB.out) hb)
      (try clear hb)
      (try clear hb2)
      (try clear hk)
      (try clear hi)
      refine hK.out _ _ ⟨.slice Ao86 y539.length co86, .slice Ao87 y542.length co87, (by rw [ha.out]; exact putSel_upk 4 hb_ rfl rfl rfl), (bB BK509.out), (bB BK528.out), (bB BK529.out), (bB BK538.out), (sB HB.out), fun _ => (rB HO541.out), fun _ => (rB HO544.out)⟩
     refine steps_cons ?_ ?_
     ·rintro b a w' ⟨v540, v543, ha, Q_BK509, Q_BK528, Q_BK529, Q_BK538, Q_HB, Q_HO541, Q_HO544⟩ hb_ hon hoff
      refine ⟨_, rfl, fun K hK => ?_⟩
      have e111 := eu 111 4 ha (hon 6 (by kernel_rfl))
      have e106 := eo 106 ha
      replace ha := am ha
      have BK509 := am Q_BK509
      have BK528 := am Q_BK528
      have BK529 := am Q_BK529
      have BK538 := am Q_BK538
      have HB := am Q_HB
      have HO541 := am (Q_HO541 (hon 3 (by kernel_rfl)))
      have HO544 := am (Q_HO544 (hon 5 (by kernel_rfl)))
      refine value_ (w1 := w') (v := .bool (!true)) (wanted_on rfl rfl rfl (e106.trans (by first | rfl | (simp [*]; done)))) rfl ?_ ?_
      ·go_simp
       (try simp only [i64_w])
       try rfl
      refine hK.out _ _ ⟨v540, v543, (by rw [ha.out]; exact putSel_upk 5 hb_ rfl rfl rfl), Q_BK509, Q_BK528, Q_BK529, Q_BK538, Q_HB, Q_HO541, Q_HO544⟩
     refine steps_cons ?_ ?_
     ·rintro b a w' ⟨v540, v543, ha, Q_BK509, Q_BK528, Q_BK529, Q_BK538, Q_HB, Q_HO541, Q_HO544⟩ hb_ hon hoff
      refine ⟨_, rfl, fun K hK => ?_⟩
      have e112 := eu 112 5 ha (hon 7 (by kernel_rfl))
      have e106 := eo 106 ha
      replace ha := am ha
      have BK509 := am Q_BK509
      have BK528 := am Q_BK528
      have BK529 := am Q_BK529
      have BK538 := am Q_BK538
      have HB := am Q_HB
      have HO541 := am (Q_HO541 (hon 3 (by kernel_rfl)))
      have HO544 := am (Q_HO544 (hon 5 (by kernel_rfl)))
      refine value_ (w1 := w') (v := .bool (!true)) (wanted_on rfl rfl rfl (e106.trans (by first | rfl | (simp [*]; done)))) rfl ?_ ?_
      ·go_simp
       (try simp only [i64_w])
       try rfl
      refine hK.out _ _ ⟨v540, v543, (by rw [ha.out]; exact putSel_upk 6 hb_ rfl rfl rfl), Q_BK509, Q_BK528, Q_BK529, Q_BK538, Q_HB, Q_HO541, Q_HO544⟩
     refine steps_cons ?_ ?_
     ·rintro b a w' ⟨v540, v543, ha, Q_BK509, Q_BK528, Q_BK529, Q_BK538, Q_HB, Q_HO541, Q_HO544⟩ hb_ hon hoff
      refine ⟨_, rfl, fun K hK => ?_⟩
      have e13 := eo 13 ha
      have e113 := eu 113 6 ha (hon 8 (by kernel_rfl))
      replace ha := am ha
      have BK509 := am Q_BK509
      have BK528 := am Q_BK528
      have BK529 := am Q_BK529
      have BK538 := am Q_BK538
      have HB := am Q_HB
      have HO541 := am (Q_HO541 (hon 3 (by kernel_rfl)))
      have HO544 := am (Q_HO544 (hon 5 (by kernel_rfl)))
      have hc0_ : w'.cell? ⟨gb538, 0, none⟩ = some (.int .i64 t530) := (Kk BK538.out 0).trans rfl
      have hc1_ : w'.cell? ⟨gb538, 1, none⟩ = some (.int .i64 t531) := (Kk BK538.out 1).trans rfl
      have hc2_ : w'.cell? ⟨gb538, 2, none⟩ = some (.int .i64 t532) := (Kk BK538.out 2).trans rfl
      have hc3_ : w'.cell? ⟨gb538, 3, none⟩ = some (.int .i64 t533) := (Kk BK538.out 3).trans rfl
      have hc4_ : w'.cell? ⟨gb538, 4, none⟩ = some (.int .i64 t534) := (Kk BK538.out 4).trans rfl
      have hc5_ : w'.cell? ⟨gb538, 5, none⟩ = some (.int .i64 t535) := (Kk BK538.out 5).trans rfl
      have hc6_ : w'.cell? ⟨gb538, 6, none⟩ = some (.bool t536) := (Kk BK538.out 6).trans rfl
      refine value_ (w1 := w') (v := .agg #[.int .i64 t530, .int .i64 t531, .int .i64 t532, .int .i64 t533, .int .i64 t534, .int .i64 t535, .bool t536]) (wanted_on rfl rfl rfl (e113.trans (by first | rfl | (simp [*]; done)))) rfl ?_ ?_
      ·go_simp
       (try simp only [i64_w])
       try rfl
      refine hK.out _ _ ⟨v540, v543, (by rw [ha.out]; exact putSel_upk 7 hb_ rfl rfl rfl), Q_BK509, Q_BK528, Q_BK529, Q_BK538, Q_HB, Q_HO541, Q_HO544⟩
     refine steps_cons ?_ ?_
     ·rintro b a w' ⟨v540, v543, ha, Q_BK509, Q_BK528, Q_BK529, Q_BK538, Q_HB, Q_HO541, Q_HO544⟩ hb_ hon hoff
      refine ⟨_, rfl, fun K hK => ?_⟩
      have e5 := eo 5 ha
      have e113 := eu 113 6 ha (hon 8 (by kernel_rfl))
      replace ha := am ha
      have BK509 := am Q_BK509
      have BK528 := am Q_BK528
      have BK529 := am Q_BK529
      have BK538 := am Q_BK538
      have HB := am Q_HB
      have HO541 := am (Q_HO541 (hon 3 (by kernel_rfl)))
      have HO544 := am (Q_HO544 (hon 5 (by kernel_rfl)))
      refine value_ (w1 := w') (v := .int .i64 t503) (wanted_on rfl rfl rfl (e113.trans (by first | rfl | (simp [*]; done)))) rfl ?_ ?_
      ·go_simp
       (try simp only [i64_w])
       try rfl
      refine hK.out _ _ ⟨v540, v543, (by rw [ha.out]; exact putSel_upk 8 hb_ rfl rfl rfl), Q_BK509, Q_BK528, Q_BK529, Q_BK538, Q_HB, Q_HO541, Q_HO544⟩
     refine steps_cons ?_ ?_
     ·rintro b a w' ⟨v540, v543, ha, Q_BK509, Q_BK528, Q_BK529, Q_BK538, Q_HB, Q_HO541, Q_HO544⟩ hb_ hon hoff
      refine ⟨_, rfl, fun K hK => ?_⟩
      have e6 := eo 6 ha
      have e113 := eu 113 6 ha (hon 8 (by kernel_rfl))
      replace ha := am ha
      have BK509 := am Q_BK509
      have BK528 := am Q_BK528
      have BK529 := am Q_BK529
      have BK538 := am Q_BK538
      have HB := am Q_HB
      have HO541 := am (Q_HO541 (hon 3 (by kernel_rfl)))
      have HO544 := am (Q_HO544 (hon 5 (by kernel_rfl)))
      have hc0_ : w'.cell? ⟨gb509, 0, none⟩ = some (.int .i64 t504) := (Kk BK509.out 0).trans rfl
      have hc1_ : w'.cell? ⟨gb509, 1, none⟩ = some (.int .i64 t505) := (Kk BK509.out 1).trans rfl
      refine value_ (w1 := w') (v := .agg #[.int .i64 t504, .int .i64 t505]) (wanted_on rfl rfl rfl (e113.trans (by first | rfl | (simp [*]; done)))) rfl ?_ ?_
      ·go_simp
       (try simp only [i64_w])
       try rfl
      refine hK.out _ _ ⟨v540, v543, (by rw [ha.out]; exact putSel_upk 9 hb_ rfl rfl rfl), Q_BK509, Q_BK528, Q_BK529, Q_BK538, Q_HB, Q_HO541, Q_HO544⟩
     refine steps_cons ?_ ?_
     ·rintro b a w' ⟨v540, v543, ha, Q_BK509, Q_BK528, Q_BK529, Q_BK538, Q_HB, Q_HO541, Q_HO544⟩ hb_ hon hoff
      refine ⟨_, rfl, fun K hK => ?_⟩
      have e7 := eo 7 ha
      have e113 := eu 113 6 ha (hon 8 (by kernel_rfl))
      replace ha := am ha
      have BK509 := am Q_BK509
      have BK528 := am Q_BK528
      have BK529 := am Q_BK529
      have BK538 := am Q_BK538
      have HB := am Q_HB
      have HO541 := am (Q_HO541 (hon 3 (by kernel_rfl)))
      have HO544 := am (Q_HO544 (hon 5 (by kernel_rfl)))
      refine value_ (w1 := w') (v := .int .i64 t506) (wanted_on rfl rfl rfl (e113.trans (by first | rfl | (simp [*]; done)))) rfl ?_ ?_
      ·go_simp
       (try simp only [i64_w])
       try rfl
      refine hK.out _ _ ⟨v540, v543, (by rw [ha.out]; exact putSel_upk 10 hb_ rfl rfl rfl), Q_BK509, Q_BK528, Q_BK529, Q_BK538, Q_HB, Q_HO541, Q_HO544⟩
     refine steps_cons ?_ ?_
     ·rintro b a w' ⟨v540, v543, ha, Q_BK509, Q_BK528, Q_BK529, Q_BK538, Q_HB, Q_HO541, Q_HO544⟩ hb_ hon hoff
      refine ⟨_, rfl, fun K hK => ?_⟩
      have e8 := eo 8 ha
      have e113 := eu 113 6 ha (hon 8 (by kernel_rfl))
      replace ha := am ha
      have BK509 := am Q_BK509
      have BK528 := am Q_BK528
      have BK529 := am Q_BK529
      have BK538 := am Q_BK538
      have HB := am Q_HB
      have HO541 := am (Q_HO541 (hon 3 (by kernel_rfl)))
      have HO544 := am (Q_HO544 (hon 5 (by kernel_rfl)))
      refine value_ (w1 := w') (v := .int .i64 t507) (wanted_on rfl rfl rfl (e113.trans (by first | rfl | (simp [*]; done)))) rfl ?_ ?_
      ·go_simp
       (try simp only [i64_w])
       try rfl
      refine hK.out _ _ ⟨v540, v543, (by rw [ha.out]; exact putSel_upk 11 hb_ rfl rfl rfl), Q_BK509, Q_BK528, Q_BK529, Q_BK538, Q_HB, Q_HO541, Q_HO544⟩
     refine steps_cons ?_ ?_
     ·rintro b a w' ⟨v540, v543, ha, Q_BK509, Q_BK528, Q_BK529, Q_BK538, Q_HB, Q_HO541, Q_HO544⟩ hb_ hon hoff
      refine ⟨_, rfl, fun K hK => ?_⟩
      have e9 := eo 9 ha
      have e113 := eu 113 6 ha (hon 8 (by kernel_rfl))
      replace ha := am ha
      have BK509 := am Q_BK509
      have BK528 := am Q_BK528
      have BK529 := am Q_BK529
      have BK538 := am Q_BK538
      have HB := am Q_HB
      have HO541 := am (Q_HO541 (hon 3 (by kernel_rfl)))
      have HO544 := am (Q_HO544 (hon 5 (by kernel_rfl)))
      refine value_ (w1 := w') (v := .bool t508) (wanted_on rfl rfl rfl (e113.trans (by first | rfl | (simp [*]; done)))) rfl ?_ ?_
      ·go_simp
       (try simp only [i64_w])
       try rfl
      refine hK.out _ _ ⟨v540, v543, (by rw [ha.out]; exact putSel_upk 12 hb_ rfl rfl rfl), Q_BK509, Q_BK528, Q_BK529, Q_BK538, Q_HB, Q_HO541, Q_HO544⟩
     refine steps_cons ?_ ?_
     ·rintro b a w' ⟨v540, v543, ha, Q_BK509, Q_BK528, Q_BK529, Q_BK538, Q_HB, Q_HO541, Q_HO544⟩ hb_ hon hoff
      refine ⟨_, rfl, fun K hK => ?_⟩
      have e114 := eu 114 7 ha (hon 9 (by kernel_rfl))
      have e115 := eu 115 8 ha (hon 10 (by kernel_rfl))
      have e116 := eu 116 9 ha (hon 11 (by kernel_rfl))
      have e117 := eu 117 10 ha (hon 12 (by kernel_rfl))
      have e118 := eu 118 11 ha (hon 13 (by kernel_rfl))
      have e119 := eu 119 12 ha (hon 14 (by kernel_rfl))
      have e113 := eu 113 6 ha (hon 8 (by kernel_rfl))
      replace ha := am ha
      have BK509 := am Q_BK509
      have BK528 := am Q_BK528
      have BK529 := am Q_BK529
      have BK538 := am Q_BK538
      have HB := am Q_HB
      have HO541 := am (Q_HO541 (hon 3 (by kernel_rfl)))
      have HO544 := am (Q_HO544 (hon 5 (by kernel_rfl)))
      refine goes_ Try.func14 (by kernel_rfl) rfl #[.agg #[.int .i64 t530, .int .i64 t531, .int .i64 t532, .int .i64 t533, .int .i64 t534, .int .i64 t535, .bool t536], .int .i64 t503, .agg #[.int .i64 t504, .int .i64 t505], .int .i64 t506, .int .i64 t507, .bool t508] (wanted_on rfl rfl rfl (e113.trans (by first | rfl | (simp [*]; done)))) rfl rfl (by first | (simp only [List.map_toArray, List.map_cons, List.map_nil, Act.eval, Array.getD_eq_getD_getElem?, Option.getD_some, e114, e115, e116, e117, e118, e119, e113]; done) | (simp only [List.map_toArray, List.map_cons, List.map_nil, Act.eval, Array.getD_eq_getD_getElem?, Option.getD_some, e114, e115, e116, e117, e118, e119, e113]; rfl)) ?_
      with_reducible refine (impl_Covers.calls t530 t531 t532 t533 t534 t535 t536 t503 t504 t505 t506 t507 t508 t546 _ A62.out).mono ?_
      rintro e w89 ⟨rfl, hb⟩
      refine ⟨_, rfl, ?_⟩
      replace HO541 := am (Ko (rB HO541.out) hb)
      replace HO544 := am (Ko (rB HO544.out) hb)
      replace BK509 := am (Kb (bB BK509.out) hb)
      replace BK528 := am (Kb (bB BK528.out) hb)
      replace BK529 := am (Kb (bB BK529.out) hb)
      replace BK538 := am (Kb (bB BK538.out) hb)
      replace HB := am (Kh (sB HB.out) hb)
      (try clear hb)
      (try clear hb2)
      (try clear hk)
      (try clear hi)
      refine hK.out _ _ ⟨v540, v543, (by rw [ha.out]; exact putSel_upk 13 hb_ rfl rfl rfl), (bB BK509.out), (bB BK528.out), (bB BK529.out), (bB BK538.out), (sB HB.out), fun _ => (rB HO541.out), fun _ => (rB HO544.out)⟩
     refine steps_cons ?_ ?_
     ·rintro b a w' ⟨v540, v543, ha, Q_BK509, Q_BK528, Q_BK529, Q_BK538, Q_HB, Q_HO541, Q_HO544⟩ hb_ hon hoff
      refine ⟨_, rfl, fun K hK => ?_⟩
      have e11 := eo 11 ha
      have e113 := eu 113 6 ha (hon 8 (by kernel_rfl))
      replace ha := am ha
      have BK509 := am Q_BK509
      have BK528 := am Q_BK528
      have BK529 := am Q_BK529
      have BK538 := am Q_BK538
      have HB := am Q_HB
      have HO541 := am (Q_HO541 (hon 3 (by kernel_rfl)))
      have HO544 := am (Q_HO544 (hon 5 (by kernel_rfl)))
      have hc0_ : w'.cell? ⟨gb528, 0, none⟩ = some (.int .i64 t519) := (Kk BK528.out 0).trans rfl
      have hc1_ : w'.cell? ⟨gb528, 1, none⟩ = some (.int .i64 t520) := (Kk BK528.out 1).trans rfl
      have hc2_ : w'.cell? ⟨gb528, 2, none⟩ = some (.int .i64 t521) := (Kk BK528.out 2).trans rfl
      have hc3_ : w'.cell? ⟨gb528, 3, none⟩ = some (.int .i64 t522) := (Kk BK528.out 3).trans rfl
      have hc4_ : w'.cell? ⟨gb528, 4, none⟩ = some (.int .i64 t523) := (Kk BK528.out 4).trans rfl
      have hc5_ : w'.cell? ⟨gb528, 5, none⟩ = some (.int .i64 t524) := (Kk BK528.out 5).trans rfl
      have hc6_ : w'.cell? ⟨gb528, 6, none⟩ = some (.bool t525) := (Kk BK528.out 6).trans rfl
      refine value_ (w1 := w') (v := .agg #[.int .i64 t519, .int .i64 t520, .int .i64 t521, .int .i64 t522, .int .i64 t523, .int .i64 t524, .bool t525]) (wanted_on rfl rfl rfl (e113.trans (by first | rfl | (simp [*]; done)))) rfl ?_ ?_
      ·go_simp
       (try simp only [i64_w])
       try rfl
      refine hK.out _ _ ⟨v540, v543, (by rw [ha.out]; exact putSel_upk 14 hb_ rfl rfl rfl), Q_BK509, Q_BK528, Q_BK529, Q_BK538, Q_HB, Q_HO541, Q_HO544⟩
     refine steps_cons ?_ ?_
     ·rintro b a w' ⟨v540, v543, ha, Q_BK509, Q_BK528, Q_BK529, Q_BK538, Q_HB, Q_HO541, Q_HO544⟩ hb_ hon hoff
      refine ⟨_, rfl, fun K hK => ?_⟩
      have e5 := eo 5 ha
      have e113 := eu 113 6 ha (hon 8 (by kernel_rfl))
      replace ha := am ha
      have BK509 := am Q_BK509
      have BK528 := am Q_BK528
      have BK529 := am Q_BK529
      have BK538 := am Q_BK538
      have HB := am Q_HB
      have HO541 := am (Q_HO541 (hon 3 (by kernel_rfl)))
      have HO544 := am (Q_HO544 (hon 5 (by kernel_rfl)))
      refine value_ (w1 := w') (v := .int .i64 t503) (wanted_on rfl rfl rfl (e113.trans (by first | rfl | (simp [*]; done)))) rfl ?_ ?_
      ·go_simp
       (try simp only [i64_w])
       try rfl
      refine hK.out _ _ ⟨v540, v543, (by rw [ha.out]; exact putSel_upk 15 hb_ rfl rfl rfl), Q_BK509, Q_BK528, Q_BK529, Q_BK538, Q_HB, Q_HO541, Q_HO544⟩
     refine steps_cons ?_ ?_
     ·rintro b a w' ⟨v540, v543, ha, Q_BK509, Q_BK528, Q_BK529, Q_BK538, Q_HB, Q_HO541, Q_HO544⟩ hb_ hon hoff
      refine ⟨_, rfl, fun K hK => ?_⟩
      have e6 := eo 6 ha
      have e113 := eu 113 6 ha (hon 8 (by kernel_rfl))
      replace ha := am ha
      have BK509 := am Q_BK509
      have BK528 := am Q_BK528
      have BK529 := am Q_BK529
      have BK538 := am Q_BK538
      have HB := am Q_HB
      have HO541 := am (Q_HO541 (hon 3 (by kernel_rfl)))
      have HO544 := am (Q_HO544 (hon 5 (by kernel_rfl)))
      have hc0_ : w'.cell? ⟨gb509, 0, none⟩ = some (.int .i64 t504) := (Kk BK509.out 0).trans rfl
      have hc1_ : w'.cell? ⟨gb509, 1, none⟩ = some (.int .i64 t505) := (Kk BK509.out 1).trans rfl
      refine value_ (w1 := w') (v := .agg #[.int .i64 t504, .int .i64 t505]) (wanted_on rfl rfl rfl (e113.trans (by first | rfl | (simp [*]; done)))) rfl ?_ ?_
      ·go_simp
       (try simp only [i64_w])
       try rfl
      refine hK.out _ _ ⟨v540, v543, (by rw [ha.out]; exact putSel_upk 16 hb_ rfl rfl rfl), Q_BK509, Q_BK528, Q_BK529, Q_BK538, Q_HB, Q_HO541, Q_HO544⟩
     refine steps_cons ?_ ?_
     ·rintro b a w' ⟨v540, v543, ha, Q_BK509, Q_BK528, Q_BK529, Q_BK538, Q_HB, Q_HO541, Q_HO544⟩ hb_ hon hoff
      refine ⟨_, rfl, fun K hK => ?_⟩
      have e7 := eo 7 ha
      have e113 := eu 113 6 ha (hon 8 (by kernel_rfl))
      replace ha := am ha
      have BK509 := am Q_BK509
      have BK528 := am Q_BK528
      have BK529 := am Q_BK529
      have BK538 := am Q_BK538
      have HB := am Q_HB
      have HO541 := am (Q_HO541 (hon 3 (by kernel_rfl)))
      have HO544 := am (Q_HO544 (hon 5 (by kernel_rfl)))
      refine value_ (w1 := w') (v := .int .i64 t506) (wanted_on rfl rfl rfl (e113.trans (by first | rfl | (simp [*]; done)))) rfl ?_ ?_
      ·go_simp
       (try simp only [i64_w])
       try rfl
      refine hK.out _ _ ⟨v540, v543, (by rw [ha.out]; exact putSel_upk 17 hb_ rfl rfl rfl), Q_BK509, Q_BK528, Q_BK529, Q_BK538, Q_HB, Q_HO541, Q_HO544⟩
     refine steps_cons ?_ ?_
     ·rintro b a w' ⟨v540, v543, ha, Q_BK509, Q_BK528, Q_BK529, Q_BK538, Q_HB, Q_HO541, Q_HO544⟩ hb_ hon hoff
      refine ⟨_, rfl, fun K hK => ?_⟩
      have e8 := eo 8 ha
      have e113 := eu 113 6 ha (hon 8 (by kernel_rfl))
      replace ha := am ha
      have BK509 := am Q_BK509
      have BK528 := am Q_BK528
      have BK529 := am Q_BK529
      have BK538 := am Q_BK538
      have HB := am Q_HB
      have HO541 := am (Q_HO541 (hon 3 (by kernel_rfl)))
      have HO544 := am (Q_HO544 (hon 5 (by kernel_rfl)))
      refine value_ (w1 := w') (v := .int .i64 t507) (wanted_on rfl rfl rfl (e113.trans (by first | rfl | (simp [*]; done)))) rfl ?_ ?_
      ·go_simp
       (try simp only [i64_w])
       try rfl
      refine hK.out _ _ ⟨v540, v543, (by rw [ha.out]; exact putSel_upk 18 hb_ rfl rfl rfl), Q_BK509, Q_BK528, Q_BK529, Q_BK538, Q_HB, Q_HO541, Q_HO544⟩
     refine steps_cons ?_ ?_
     ·rintro b a w' ⟨v540, v543, ha, Q_BK509, Q_BK528, Q_BK529, Q_BK538, Q_HB, Q_HO541, Q_HO544⟩ hb_ hon hoff
      refine ⟨_, rfl, fun K hK => ?_⟩
      have e9 := eo 9 ha
      have e113 := eu 113 6 ha (hon 8 (by kernel_rfl))
      replace ha := am ha
      have BK509 := am Q_BK509
      have BK528 := am Q_BK528
      have BK529 := am Q_BK529
      have BK538 := am Q_BK538
      have HB := am Q_HB
      have HO541 := am (Q_HO541 (hon 3 (by kernel_rfl)))
      have HO544 := am (Q_HO544 (hon 5 (by kernel_rfl)))
      refine value_ (w1 := w') (v := .bool t508) (wanted_on rfl rfl rfl (e113.trans (by first | rfl | (simp [*]; done)))) rfl ?_ ?_
      ·go_simp
       (try simp only [i64_w])
       try rfl
      refine hK.out _ _ ⟨v540, v543, (by rw [ha.out]; exact putSel_upk 19 hb_ rfl rfl rfl), Q_BK509, Q_BK528, Q_BK529, Q_BK538, Q_HB, Q_HO541, Q_HO544⟩
     refine steps_cons ?_ ?_
     ·rintro b a w' ⟨v540, v543, ha, Q_BK509, Q_BK528, Q_BK529, Q_BK538, Q_HB, Q_HO541, Q_HO544⟩ hb_ hon hoff
      refine ⟨_, rfl, fun K hK => ?_⟩
      have e121 := eu 121 14 ha (hon 16 (by kernel_rfl))
      have e122 := eu 122 15 ha (hon 17 (by kernel_rfl))
      have e123 := eu 123 16 ha (hon 18 (by kernel_rfl))
      have e124 := eu 124 17 ha (hon 19 (by kernel_rfl))
      have e125 := eu 125 18 ha (hon 20 (by kernel_rfl))
      have e126 := eu 126 19 ha (hon 21 (by kernel_rfl))
      have e113 := eu 113 6 ha (hon 8 (by kernel_rfl))
      replace ha := am ha
      have BK509 := am Q_BK509
      have BK528 := am Q_BK528
      have BK529 := am Q_BK529
      have BK538 := am Q_BK538
      have HB := am Q_HB
      have HO541 := am (Q_HO541 (hon 3 (by kernel_rfl)))
      have HO544 := am (Q_HO544 (hon 5 (by kernel_rfl)))
      refine goes_ Try.func14 (by kernel_rfl) rfl #[.agg #[.int .i64 t519, .int .i64 t520, .int .i64 t521, .int .i64 t522, .int .i64 t523, .int .i64 t524, .bool t525], .int .i64 t503, .agg #[.int .i64 t504, .int .i64 t505], .int .i64 t506, .int .i64 t507, .bool t508] (wanted_on rfl rfl rfl (e113.trans (by first | rfl | (simp [*]; done)))) rfl rfl (by first | (simp only [List.map_toArray, List.map_cons, List.map_nil, Act.eval, Array.getD_eq_getD_getElem?, Option.getD_some, e121, e122, e123, e124, e125, e126, e113]; done) | (simp only [List.map_toArray, List.map_cons, List.map_nil, Act.eval, Array.getD_eq_getD_getElem?, Option.getD_some, e121, e122, e123, e124, e125, e126, e113]; rfl)) ?_
      with_reducible refine (impl_Covers.calls t519 t520 t521 t522 t523 t524 t525 t503 t504 t505 t506 t507 t508 false _ A63.out).mono ?_
      rintro e w90 ⟨rfl, hb⟩
      refine ⟨_, rfl, ?_⟩
      replace HO541 := am (Ko (rB HO541.out) hb)
      replace HO544 := am (Ko (rB HO544.out) hb)
      replace BK509 := am (Kb (bB BK509.out) hb)
      replace BK528 := am (Kb (bB BK528.out) hb)
      replace BK529 := am (Kb (bB BK529.out) hb)
      replace BK538 := am (Kb (bB BK538.out) hb)
      replace HB := am (Kh (sB HB.out) hb)
      (try clear hb)
      (try clear hb2)
      (try clear hk)
      (try clear hi)
      refine hK.out _ _ ⟨v540, v543, (by rw [ha.out]; exact putSel_upk 20 hb_ rfl rfl rfl), (bB BK509.out), (bB BK528.out), (bB BK529.out), (bB BK538.out), (sB HB.out), fun _ => (rB HO541.out), fun _ => (rB HO544.out)⟩
     refine steps_cons ?_ ?_
     ·rintro b a w' ⟨v540, v543, ha, Q_BK509, Q_BK528, Q_BK529, Q_BK538, Q_HB, Q_HO541, Q_HO544⟩ hb_ hon hoff
      refine ⟨_, rfl, fun K hK => ?_⟩
      have e127 := eu 127 20 ha (hon 22 (by kernel_rfl))
      have e113 := eu 113 6 ha (hon 8 (by kernel_rfl))
      replace ha := am ha
      have BK509 := am Q_BK509
      have BK528 := am Q_BK528
      have BK529 := am Q_BK529
      have BK538 := am Q_BK538
      have HB := am Q_HB
      have HO541 := am (Q_HO541 (hon 3 (by kernel_rfl)))
      have HO544 := am (Q_HO544 (hon 5 (by kernel_rfl)))
      refine value_ (w1 := w') (v := .bool false) (wanted_on rfl rfl rfl (e113.trans (by first | rfl | (simp [*]; done)))) rfl ?_ ?_
      ·go_simp
       (try simp only [i64_w])
       try rfl
      refine hK.out _ _ ⟨v540, v543, (by rw [ha.out]; exact putSel_upk 21 hb_ rfl rfl rfl), Q_BK509, Q_BK528, Q_BK529, Q_BK538, Q_HB, Q_HO541, Q_HO544⟩
     refine steps_cons ?_ ?_
     ·rintro b a w' ⟨v540, v543, ha, Q_BK509, Q_BK528, Q_BK529, Q_BK538, Q_HB, Q_HO541, Q_HO544⟩ hb_ hon hoff
      refine ⟨_, rfl, fun K hK => ?_⟩
      have e128 := eu 128 21 ha (hon 23 (by kernel_rfl))
      replace ha := am ha
      have BK509 := am Q_BK509
      have BK528 := am Q_BK528
      have BK529 := am Q_BK529
      have BK538 := am Q_BK538
      have HB := am Q_HB
      have HO541 := am (Q_HO541 (hon 3 (by kernel_rfl)))
      have HO544 := am (Q_HO544 (hon 5 (by kernel_rfl)))
      refine off_ (wanted_off rfl rfl rfl (e128.trans (by first | rfl | (simp [*]; done)))) ?_
      refine hK.out _ _ ⟨v540, v543, (by rw [ha.out]; exact putSel_upk 22 hb_ rfl rfl rfl), Q_BK509, Q_BK528, Q_BK529, Q_BK538, Q_HB, Q_HO541, Q_HO544⟩
     refine steps_cons ?_ ?_
     ·rintro b a w' ⟨v540, v543, ha, Q_BK509, Q_BK528, Q_BK529, Q_BK538, Q_HB, Q_HO541, Q_HO544⟩ hb_ hon hoff
      refine ⟨_, rfl, fun K hK => ?_⟩
      have e128 := eu 128 21 ha (hon 23 (by kernel_rfl))
      replace ha := am ha
      have BK509 := am Q_BK509
      have BK528 := am Q_BK528
      have BK529 := am Q_BK529
      have BK538 := am Q_BK538
      have HB := am Q_HB
      have HO541 := am (Q_HO541 (hon 3 (by kernel_rfl)))
      have HO544 := am (Q_HO544 (hon 5 (by kernel_rfl)))
      refine off_ (wanted_off rfl rfl rfl (e128.trans (by first | rfl | (simp [*]; done)))) ?_
      refine hK.out _ _ ⟨v540, v543, (by rw [ha.out]; exact putSel_upk 23 hb_ rfl rfl rfl), Q_BK509, Q_BK528, Q_BK529, Q_BK538, Q_HB, Q_HO541, Q_HO544⟩
     refine steps_cons ?_ ?_
     ·rintro b a w' ⟨v540, v543, ha, Q_BK509, Q_BK528, Q_BK529, Q_BK538, Q_HB, Q_HO541, Q_HO544⟩ hb_ hon hoff
      refine ⟨_, rfl, fun K hK => ?_⟩
      have e128 := eu 128 21 ha (hon 23 (by kernel_rfl))
      replace ha := am ha
      have BK509 := am Q_BK509
      have BK528 := am Q_BK528
      have BK529 := am Q_BK529
      have BK538 := am Q_BK538
      have HB := am Q_HB
      have HO541 := am (Q_HO541 (hon 3 (by kernel_rfl)))
      have HO544 := am (Q_HO544 (hon 5 (by kernel_rfl)))
      refine off_ (wanted_off rfl rfl rfl (e128.trans (by first | rfl | (simp [*]; done)))) ?_
      refine hK.out _ _ ⟨v540, v543, (by rw [ha.out]; exact putSel_upk 24 hb_ rfl rfl rfl), Q_BK509, Q_BK528, Q_BK529, Q_BK538, Q_HB, Q_HO541, Q_HO544⟩
     refine steps_cons ?_ ?_
     ·rintro b a w' ⟨v540, v543, ha, Q_BK509, Q_BK528, Q_BK529, Q_BK538, Q_HB, Q_HO541, Q_HO544⟩ hb_ hon hoff
      refine ⟨_, rfl, fun K hK => ?_⟩
      have e128 := eu 128 21 ha (hon 23 (by kernel_rfl))
      have e131 := eu 131 24 ha (hon 26 (by kernel_rfl))
      have e113 := eu 113 6 ha (hon 8 (by kernel_rfl))
      replace ha := am ha
      have BK509 := am Q_BK509
      have BK528 := am Q_BK528
      have BK529 := am Q_BK529
      have BK538 := am Q_BK538
      have HB := am Q_HB
      have HO541 := am (Q_HO541 (hon 3 (by kernel_rfl)))
      have HO544 := am (Q_HO544 (hon 5 (by kernel_rfl)))
      refine value_ (w1 := w') (v := .bool false) (wanted_on rfl rfl rfl (e113.trans (by first | rfl | (simp [*]; done)))) rfl ?_ ?_
      ·go_simp
       (try simp only [i64_w])
       try rfl
      refine hK.out _ _ ⟨v540, v543, (by rw [ha.out]; exact putSel_upk 25 hb_ rfl rfl rfl), Q_BK509, Q_BK528, Q_BK529, Q_BK538, Q_HB, Q_HO541, Q_HO544⟩
     refine steps_cons ?_ ?_
     ·rintro b a w' ⟨v540, v543, ha, Q_BK509, Q_BK528, Q_BK529, Q_BK538, Q_HB, Q_HO541, Q_HO544⟩ hb_ hon hoff
      refine ⟨_, rfl, fun K hK => ?_⟩
      have e120 := eu 120 13 ha (hon 15 (by kernel_rfl))
      have e132 := eu 132 25 ha (hon 27 (by kernel_rfl))
      have e113 := eu 113 6 ha (hon 8 (by kernel_rfl))
      replace ha := am ha
      have BK509 := am Q_BK509
      have BK528 := am Q_BK528
      have BK529 := am Q_BK529
      have BK538 := am Q_BK538
      have HB := am Q_HB
      have HO541 := am (Q_HO541 (hon 3 (by kernel_rfl)))
      have HO544 := am (Q_HO544 (hon 5 (by kernel_rfl)))
      refine value_ (w1 := w') (v := .bool (t546 != false)) (wanted_on rfl rfl rfl (e113.trans (by first | rfl | (simp [*]; done)))) rfl ?_ ?_
      ·go_simp
       (try simp only [i64_w])
       first | done | rfl | (cases t546 <;> (try cases t548) <;> rfl)
      refine hK.out _ _ ⟨v540, v543, (by rw [ha.out]; exact putSel_upk 26 hb_ rfl rfl rfl), Q_BK509, Q_BK528, Q_BK529, Q_BK538, Q_HB, Q_HO541, Q_HO544⟩
     refine steps_cons ?_ ?_
     ·rintro b a w' ⟨v540, v543, ha, Q_BK509, Q_BK528, Q_BK529, Q_BK538, Q_HB, Q_HO541, Q_HO544⟩ hb_ hon hoff
      refine ⟨_, rfl, fun K hK => ?_⟩
      have e113 := eu 113 6 ha (hon 8 (by kernel_rfl))
      have e133 := eu 133 26 ha (hon 28 (by kernel_rfl))
      have e106 := eo 106 ha
      replace ha := am ha
      have BK509 := am Q_BK509
      have BK528 := am Q_BK528
      have BK529 := am Q_BK529
      have BK538 := am Q_BK538
      have HB := am Q_HB
      have HO541 := am (Q_HO541 (hon 3 (by kernel_rfl)))
      have HO544 := am (Q_HO544 (hon 5 (by kernel_rfl)))
      refine value_ (w1 := w') (v := .bool (t546 != false)) (wanted_on rfl rfl rfl (e106.trans (by first | rfl | (simp [*]; done)))) rfl ?_ ?_
      ·go_simp
       (try simp only [i64_w])
       first | done | rfl | (cases t546 <;> (try cases t548) <;> rfl)
      refine hK.out _ _ ⟨v540, v543, (by rw [ha.out]; exact putSel_upk 27 hb_ rfl rfl rfl), Q_BK509, Q_BK528, Q_BK529, Q_BK538, Q_HB, Q_HO541, Q_HO544⟩
     refine steps_cons ?_ ?_
     ·rintro b a w' ⟨v540, v543, ha, Q_BK509, Q_BK528, Q_BK529, Q_BK538, Q_HB, Q_HO541, Q_HO544⟩ hb_ hon hoff
      refine ⟨_, rfl, fun K hK => ?_⟩
      have e106 := eo 106 ha
      have e134 := eu 134 27 ha (hon 29 (by kernel_rfl))
      replace ha := am ha
      have BK509 := am Q_BK509
      have BK528 := am Q_BK528
      have BK529 := am Q_BK529
      have BK538 := am Q_BK538
      have HB := am Q_HB
      have HO541 := am (Q_HO541 (hon 3 (by kernel_rfl)))
      have HO544 := am (Q_HO544 (hon 5 (by kernel_rfl)))
      refine value_ (w1 := w') (v := .bool (t546 != false)) (by rfl) rfl ?_ ?_
      ·go_simp
       (try simp only [i64_w])
       first | done | rfl | (cases t546 <;> (try cases t548) <;> rfl)
      refine hK.out _ _ ⟨v540, v543, (by rw [ha.out]; exact putSel_upk 28 hb_ rfl rfl rfl), Q_BK509, Q_BK528, Q_BK529, Q_BK538, Q_HB, Q_HO541, Q_HO544⟩
     exact steps_nil
    rintro b a w90 hall ⟨v540, v543, ha, Q_BK509, Q_BK528, Q_BK529, Q_BK538, Q_HB, Q_HO541, Q_HO544⟩
    clear BK509 BK528 BK529 BK538 HB
    have hb2_ := hall 2 (by kernel_rfl)
    have hb3_ := hall 3 (by kernel_rfl)
    have hb4_ := hall 4 (by kernel_rfl)
    have hb5_ := hall 5 (by kernel_rfl)
    have hb6_ := hall 6 (by kernel_rfl)
    have hb7_ := hall 7 (by kernel_rfl)
    have hb8_ := hall 8 (by kernel_rfl)
    have hb9_ := hall 9 (by kernel_rfl)
    have hb10_ := hall 10 (by kernel_rfl)
    have hb11_ := hall 11 (by kernel_rfl)
    have hb12_ := hall 12 (by kernel_rfl)
    have hb13_ := hall 13 (by kernel_rfl)
    have hb14_ := hall 14 (by kernel_rfl)
    have hb15_ := hall 15 (by kernel_rfl)
    have hb16_ := hall 16 (by kernel_rfl)
    have hb17_ := hall 17 (by kernel_rfl)
    have hb18_ := hall 18 (by kernel_rfl)
    have hb19_ := hall 19 (by kernel_rfl)
    have hb20_ := hall 20 (by kernel_rfl)
    have hb21_ := hall 21 (by kernel_rfl)
    have hb22_ := hall 22 (by kernel_rfl)
    have hb23_ := hall 23 (by kernel_rfl)
    have hb24_ := hall 24 (by kernel_rfl)
    have hb25_ := hall 25 (by kernel_rfl)
    have hb26_ := hall 26 (by kernel_rfl)
    have hb27_ := hall 27 (by kernel_rfl)
    have hb28_ := hall 28 (by kernel_rfl)
    have hb29_ := hall 29 (by kernel_rfl)
    have hb30_ := hall 30 (by kernel_rfl)
    subst ha
    simp only [putSel, hb2_, hb3_, hb4_, hb5_, hb6_, hb7_, hb8_, hb9_, hb10_, hb11_, hb12_, hb13_, hb14_, hb15_, hb16_, hb17_, hb18_, hb19_, hb20_, hb21_, hb22_, hb23_, hb24_, hb25_, hb26_, hb27_, hb28_, hb29_, hb30_, if_true, Act.put, List.setIfInBounds_toArray, List.set_cons_zero, List.set_cons_succ]
    have BK509 := am Q_BK509
    clear Q_BK509
    have BK528 := am Q_BK528
    clear Q_BK528
    have BK529 := am Q_BK529
    clear Q_BK529
    have BK538 := am Q_BK538
    clear Q_BK538
    have HB := am Q_HB
    clear Q_HB
    have HO541 := am (Q_HO541 hb3_)
    clear Q_HO541
    have HO544 := am (Q_HO544 hb5_)
    clear Q_HO544
    clear hall hb2_ hb3_ hb4_ hb5_ hb6_ hb7_ hb8_ hb9_ hb10_ hb11_ hb12_ hb13_ hb14_ hb15_ hb16_ hb17_ hb18_ hb19_ hb20_ hb21_ hb22_ hb23_ hb24_ hb25_ hb26_ hb27_ hb28_ hb29_ hb30_
    try go_wp2
    go_meet
    case rel => exact ⟨_, ((t546 != false)), (by first | rfl | (simp; done) | (simp [*]; done)), H', ⟨by have := HJ8.out; first | omega | exact Nat.le_refl _⟩, ⟨bB BK509.out⟩, ⟨bB BK528.out⟩, ⟨bB BK529.out⟩, ⟨bB BK538.out⟩, ⟨sB HB.out⟩⟩
  ·replace c61 := bF c61
   subst c61
   replace H := hF H
   have H' := am H
   clear H
   try go_wp2
   have n0_ : Aside0 ((((((((w54.setCell ⟨gb538, 0, none⟩ (.int .i64 t530)).setCell ⟨gb538, 1, none⟩ (.int .i64 t531)).setCell ⟨gb538, 2, none⟩ (.int .i64 t532)).setCell ⟨gb538, 3, none⟩ (.int .i64 t533)).setCell ⟨gb538, 4, none⟩ (.int .i64 t534)).setCell ⟨gb538, 5, none⟩ (.int .i64 t535)).setCell ⟨gb538, 6, none⟩ (.bool t536)).heap[gb509]? = some (.cells #[.int .i64 t504, .int .i64 t505] 27 (0, 0))) := ⟨by refine bB ?_; refine blk_far ?_ NB509_538.out _; refine bB ?_; refine blk_far ?_ NB509_538.out _; refine bB ?_; refine blk_far ?_ NB509_538.out _; refine bB ?_; refine blk_far ?_ NB509_538.out _; refine bB ?_; refine blk_far ?_ NB509_538.out _; refine bB ?_; refine blk_far ?_ NB509_538.out _; refine bB ?_; refine blk_far ?_ NB509_538.out _; refine bB ?_; exact BK509.out⟩
   have n1_ : Aside0 ((((((((w54.setCell ⟨gb538, 0, none⟩ (.int .i64 t530)).setCell ⟨gb538, 1, none⟩ (.int .i64 t531)).setCell ⟨gb538, 2, none⟩ (.int .i64 t532)).setCell ⟨gb538, 3, none⟩ (.int .i64 t533)).setCell ⟨gb538, 4, none⟩ (.int .i64 t534)).setCell ⟨gb538, 5, none⟩ (.int .i64 t535)).setCell ⟨gb538, 6, none⟩ (.bool t536)).heap[gb528]? = some (.cells #[.int .i64 t519, .int .i64 t520, .int .i64 t521, .int .i64 t522, .int .i64 t523, .int .i64 t524, .bool t525] 35 (0, 0))) := ⟨by refine bB ?_; refine blk_far ?_ NB528_538.out _; refine bB ?_; refine blk_far ?_ NB528_538.out _; refine bB ?_; refine blk_far ?_ NB528_538.out _; refine bB ?_; refine blk_far ?_ NB528_538.out _; refine bB ?_; refine blk_far ?_ NB528_538.out _; refine bB ?_; refine blk_far ?_ NB528_538.out _; refine bB ?_; refine blk_far ?_ NB528_538.out _; refine bB ?_; exact BK528.out⟩
   have n2_ : Aside0 ((((((((w54.setCell ⟨gb538, 0, none⟩ (.int .i64 t530)).setCell ⟨gb538, 1, none⟩ (.int .i64 t531)).setCell ⟨gb538, 2, none⟩ (.int .i64 t532)).setCell ⟨gb538, 3, none⟩ (.int .i64 t533)).setCell ⟨gb538, 4, none⟩ (.int .i64 t534)).setCell ⟨gb538, 5, none⟩ (.int .i64 t535)).setCell ⟨gb538, 6, none⟩ (.bool t536)).heap[gb529]? = some (.cells #[.int .i64 t526, .int .i64 t527] 33 (0, 0))) := ⟨by refine bB ?_; refine blk_far ?_ NB529_538.out _; refine bB ?_; refine blk_far ?_ NB529_538.out _; refine bB ?_; refine blk_far ?_ NB529_538.out _; refine bB ?_; refine blk_far ?_ NB529_538.out _; refine bB ?_; refine blk_far ?_ NB529_538.out _; refine bB ?_; refine blk_far ?_ NB529_538.out _; refine bB ?_; refine blk_far ?_ NB529_538.out _; refine bB ?_; exact BK529.out⟩
   have n3_ : Aside0 ((((((((w54.setCell ⟨gb538, 0, none⟩ (.int .i64 t530)).setCell ⟨gb538, 1, none⟩ (.int .i64 t531)).setCell ⟨gb538, 2, none⟩ (.int .i64 t532)).setCell ⟨gb538, 3, none⟩ (.int .i64 t533)).setCell ⟨gb538, 4, none⟩ (.int .i64 t534)).setCell ⟨gb538, 5, none⟩ (.int .i64 t535)).setCell ⟨gb538, 6, none⟩ (.bool t536)).heap[gb538]? = some (.cells #[.int .i64 t530, .int .i64 t531, .int .i64 t532, .int .i64 t533, .int .i64 t534, .int .i64 t535, .bool t536] 35 (0, 0))) := ⟨by refine bB ?_; refine Kg (cs := #[.int .i64 t530, .int .i64 t531, .int .i64 t532, .int .i64 t533, .int .i64 t534, .int .i64 t535, .bool false]) ?_ 6 _ rfl; refine bB ?_; refine Kg (cs := #[.int .i64 t530, .int .i64 t531, .int .i64 t532, .int .i64 t533, .int .i64 t534, .int .i64 0, .bool false]) ?_ 5 _ rfl; refine bB ?_; refine Kg (cs := #[.int .i64 t530, .int .i64 t531, .int .i64 t532, .int .i64 t533, .int .i64 0, .int .i64 0, .bool false]) ?_ 4 _ rfl; refine bB ?_; refine Kg (cs := #[.int .i64 t530, .int .i64 t531, .int .i64 t532, .int .i64 0, .int .i64 0, .int .i64 0, .bool false]) ?_ 3 _ rfl; refine bB ?_; refine Kg (cs := #[.int .i64 t530, .int .i64 t531, .int .i64 0, .int .i64 0, .int .i64 0, .int .i64 0, .bool false]) ?_ 2 _ rfl; refine bB ?_; refine Kg (cs := #[.int .i64 t530, .int .i64 0, .int .i64 0, .int .i64 0, .int .i64 0, .int .i64 0, .bool false]) ?_ 1 _ rfl; refine bB ?_; refine Kg (cs := #[.int .i64 0, .int .i64 0, .int .i64 0, .int .i64 0, .int .i64 0, .int .i64 0, .bool false]) ?_ 0 _ rfl; refine bB ?_; exact BK538.out⟩
   have n4_ : Aside0 (Below w.heap.size w (((((((w54.setCell ⟨gb538, 0, none⟩ (.int .i64 t530)).setCell ⟨gb538, 1, none⟩ (.int .i64 t531)).setCell ⟨gb538, 2, none⟩ (.int .i64 t532)).setCell ⟨gb538, 3, none⟩ (.int .i64 t533)).setCell ⟨gb538, 4, none⟩ (.int .i64 t534)).setCell ⟨gb538, 5, none⟩ (.int .i64 t535)).setCell ⟨gb538, 6, none⟩ (.bool t536))) := ⟨sB HB.out⟩
   (try clear BK509)
   (try clear BK528)
   (try clear BK529)
   (try clear BK538)
   (try clear HB)
   generalize (((((((w54.setCell ⟨gb538, 0, none⟩ (.int .i64 t530)).setCell ⟨gb538, 1, none⟩ (.int .i64 t531)).setCell ⟨gb538, 2, none⟩ (.int .i64 t532)).setCell ⟨gb538, 3, none⟩ (.int .i64 t533)).setCell ⟨gb538, 4, none⟩ (.int .i64 t534)).setCell ⟨gb538, 5, none⟩ (.int .i64 t535)).setCell ⟨gb538, 6, none⟩ (.bool t536)) = w91 at n0_ n1_ n2_ n3_ n4_ ⊢
   have BK509 := n0_
   have BK528 := n1_
   have BK529 := n2_
   have BK538 := n3_
   have HB := n4_
   clear n0_ n1_ n2_ n3_ n4_
   replace BK509 := am (blk_drew BK509.out)
   replace BK528 := am (blk_drew BK528.out)
   replace BK529 := am (blk_drew BK529.out)
   replace BK538 := am (blk_drew BK538.out)
   replace HB := am (Ks HB.out)
   refine start_ (n := 31) (S := fun w' => True) (ds := []) #[z,z,z,z,z,z,z,z,z,z,z,z,z,z,z,z,z,z,z,z,z,z,z,z,z,z,z,z,z,z,z] (by kernel_rfl) rfl rfl trivial (fun hHeld => ?_); refine with_tabW laws_FnNarrowed.tab11 laws_FnNarrowed.bits11 (fun HT_ HW_ => ?_)
   generalize w91.drew = w92 at BK509 BK528 BK529 BK538 HB hHeld ⊢
   refine pu 0 105 #[o,z,z,z,z,z,z,z,z,z,z,z,z,z,z,z,z,z,z,z,z,z,z,z,z,z,z,z,z,z,z] HT_ ?_
   refine pu 1 106 #[o,o,z,z,z,z,z,z,z,z,z,z,z,z,z,z,z,z,z,z,z,z,z,z,z,z,z,z,z,z,z] HT_ ?_
   refine inv_at [2, 3, 4, 5, 6, 7, 8, 9, 10, 11, 12, 13, 14, 15, 16, 17, 18, 19, 20, 21, 22, 23, 24, 25, 26, 27, 28, 29, 30] (fun a0_ b a w' => ∃ (v540 : Value) (v543 : Value), a = putSel a0_ b [(2, 107, .agg #[.int .i64 t530, .int .i64 t531, .int .i64 t532, .int .i64 t533, .int .i64 t534, .int .i64 t535, .bool t536]), (3, 108, v540), (4, 109, .agg #[.int .i64 t519, .int .i64 t520, .int .i64 t521, .int .i64 t522, .int .i64 t523, .int .i64 t524, .bool t525]), (5, 110, v543), (6, 111, .bool false), (7, 112, .bool (!false)), (8, 113, .bool (!false)), (9, 114, undef), (10, 115, undef), (11, 116, undef), (12, 117, undef), (13, 118, undef), (14, 119, undef), (15, 120, undef), (16, 121, undef), (17, 122, undef), (18, 123, undef), (19, 124, undef), (20, 125, undef), (21, 126, undef), (22, 127, undef), (23, 128, undef), (24, 129, undef), (25, 130, undef), (26, 131, undef), (27, 132, undef), (28, 133, undef), (29, 134, .bool true), (30, 135, .bool true)] ∧ (w'.heap[gb509]? = some (.cells #[.int .i64 t504, .int .i64 t505] 27 (0, 0))) ∧ (w'.heap[gb528]? = some (.cells #[.int .i64 t519, .int .i64 t520, .int .i64 t521, .int .i64 t522, .int .i64 t523, .int .i64 t524, .bool t525] 35 (0, 0))) ∧ (w'.heap[gb529]? = some (.cells #[.int .i64 t526, .int .i64 t527] 33 (0, 0))) ∧ (w'.heap[gb538]? = some (.cells #[.int .i64 t530, .int .i64 t531, .int .i64 t532, .int .i64 t533, .int .i64 t534, .int .i64 t535, .bool t536] 35 (0, 0))) ∧ (Below w.heap.size w w') ∧ (b 3 = true → Kd.R k35 35 w' w.heap.size (fun k_ => k_ ≠ gb528 ∧ k_ ≠ gb538) v540 y539) ∧ (b 5 = true → Kd.R k35 35 w' w.heap.size (fun k_ => k_ ≠ gb528 ∧ k_ ≠ gb538) v543 y542)) HT_.out HW_.out (by kernel_rfl) (by kernel_rfl) ?_ ?_ ?_
   ·exact ⟨.bool false, .bool false, by simp only [putSel, Bool.false_eq_true, if_false], BK509.out, BK528.out, BK529.out, BK538.out, HB.out, fun h_ => absurd h_ (by decide), fun h_ => absurd h_ (by decide)⟩
   ·skip
    clear BK509 BK528 BK529 BK538 HB
    refine steps_cons ?_ ?_
    ·rintro b a w' ⟨v540, v543, ha, Q_BK509, Q_BK528, Q_BK529, Q_BK538, Q_HB, Q_HO541, Q_HO544⟩ hb_ hon hoff
     refine ⟨_, rfl, fun K hK => ?_⟩
     have e13 := eo 13 ha
     have e106 := eo 106 ha
     replace ha := am ha
     have BK509 := am Q_BK509
     have BK528 := am Q_BK528
     have BK529 := am Q_BK529
     have BK538 := am Q_BK538
     have HB := am Q_HB
     have hc0_ : w'.cell? ⟨gb538, 0, none⟩ = some (.int .i64 t530) := (Kk BK538.out 0).trans rfl
     have hc1_ : w'.cell? ⟨gb538, 1, none⟩ = some (.int .i64 t531) := (Kk BK538.out 1).trans rfl
     have hc2_ : w'.cell? ⟨gb538, 2, none⟩ = some (.int .i64 t532) := (Kk BK538.out 2).trans rfl
     have hc3_ : w'.cell? ⟨gb538, 3, none⟩ = some (.int .i64 t533) := (Kk BK538.out 3).trans rfl
     have hc4_ : w'.cell? ⟨gb538, 4, none⟩ = some (.int .i64 t534) := (Kk BK538.out 4).trans rfl
     have hc5_ : w'.cell? ⟨gb538, 5, none⟩ = some (.int .i64 t535) := (Kk BK538.out 5).trans rfl
     have hc6_ : w'.cell? ⟨gb538, 6, none⟩ = some (.bool t536) := (Kk BK538.out 6).trans rfl
     refine value_ (w1 := w') (v := .agg #[.int .i64 t530, .int .i64 t531, .int .i64 t532, .int .i64 t533, .int .i64 t534, .int .i64 t535, .bool t536]) (wanted_on rfl rfl rfl (e106.trans (by first | rfl | (simp [*]; done)))) rfl ?_ ?_
     ·go_simp
      (try simp only [i64_w])
      try rfl
     refine hK.out _ _ ⟨v540, v543, (by rw [ha.out]; exact putSel_upk 0 hb_ rfl rfl rfl), Q_BK509, Q_BK528, Q_BK529, Q_BK538, Q_HB, fun h0_ => absurd ((hoff 3 (by kernel_rfl)).symm.trans h0_) (by decide), Q_HO544⟩
    refine steps_cons ?_ ?_
    ·rintro b a w' ⟨v540, v543, ha, Q_BK509, Q_BK528, Q_BK529, Q_BK538, Q_HB, Q_HO541, Q_HO544⟩ hb_ hon hoff
     refine ⟨_, rfl, fun K hK => ?_⟩
     have e107 := eu 107 0 ha (hon 2 (by kernel_rfl))
     have e106 := eo 106 ha
     replace ha := am ha
     have BK509 := am Q_BK509
     have BK528 := am Q_BK528
     have BK529 := am Q_BK529
     have BK538 := am Q_BK538
     have HB := am Q_HB
     refine Kd.R_lit_step k35 _ 35 ?hg (N := 108) ?hd (xs := ([(⟨t530, (⟨t531, t532⟩ : S33), t533, t534, t535, t536⟩ : S35)] : List (S35))) (inner := [.int .i64 t530, .int .i64 t531, .int .i64 t532, .int .i64 t533, .int .i64 t534, .int .i64 t535, .bool t536]) (ok := fun _ => True) (okp := fun _ => True) ?hr ?hp (fun _ hk => hk) trivial (Below.refl _ _) (Nat.le_refl _) (by simp) ?_; (case hd => rfl); (case hg => exact wanted_on rfl rfl rfl (e106.trans (by first | rfl | (simp [*]; done)))); (case hr => first | (go_simp; done) | (go_simp; rfl)); (case hp => exact (Reps.c7 (show Kd.M k35 _ _ _ (⟨t530, (⟨t531, t532⟩ : S33), t533, t534, t535, t536⟩ : S35) [.int .i64 t530, .int .i64 t531, .int .i64 t532, .int .i64 t533, .int .i64 t534, .int .i64 t535, .bool t536] from (k35_mkM _ _ _ (⟨t530, (⟨t531, t532⟩ : S33), t533, t534, t535, t536⟩ : S35) )) (Reps.none _ _)))
     intro v540 w93 ho94 hb hg_ hnew_
     clear hg_ hnew_
     (first | rw [← Ny539.out] at ho94 | (simp only [Int.reduceToNat] at ho94; rw [← Ny539.out] at ho94))
     have n0_ := am (Kd.R_lower (Kd.R_newB (Kd.R_newB ho94 (bB BK528.out)) (bB BK538.out)) (below_size (sB HB.out)))
     have n1_ := am (Kb (bB BK509.out) hb)
     have n2_ := am (Kb (bB BK528.out) hb)
     have n3_ := am (Kb (bB BK529.out) hb)
     have n4_ := am (Kb (bB BK538.out) hb)
     have n5_ := am (Kh (sB HB.out) hb)
     have z_HO544 := fun (h0_ : b 5 = true) => (show Kd.R k35 35 w93 w.heap.size (fun k_ => k_ ≠ gb528 ∧ k_ ≠ gb538) v543 y542 from by first | exact (Kd.R_elder' (by (with_reducible repeat (first | apply Kd.R_alloc | apply Kd.R_drewN | apply Kd.R_drew)); exact (Q_HO544 h0_)) (Kd.R_base ho94) hb) | exact Kt (Kd.R_elder' (by (with_reducible repeat (first | apply Kd.R_alloc | apply Kd.R_drewN | apply Kd.R_drew)); exact (Q_HO544 h0_)) (Kd.R_base ho94) hb) (fun _ h_ => by first | trivial | exact h_ | exact h_.1))
     clear BK509
     clear BK528
     clear BK529
     clear BK538
     clear HB
     have HO541 := n0_
     have BK509 := n1_
     have BK528 := n2_
     have BK529 := n3_
     have BK538 := n4_
     have HB := n5_
     clear n0_ n1_ n2_ n3_ n4_ n5_
     clear hb ho94
     refine hK.out _ _ ⟨v540, v543, (by rw [ha.out]; exact putSel_upk 1 hb_ rfl rfl rfl), (bB BK509.out), (bB BK528.out), (bB BK529.out), (bB BK538.out), (sB HB.out), fun _ => (by (with_reducible repeat (first | apply Kd.R_alloc | apply Kd.R_drewN | apply Kd.R_drew)); exact Kt HO541.out (fun _ hk => ⟨hk.1.2, hk.2⟩)), z_HO544⟩
    refine steps_cons ?_ ?_
    ·rintro b a w' ⟨v540, v543, ha, Q_BK509, Q_BK528, Q_BK529, Q_BK538, Q_HB, Q_HO541, Q_HO544⟩ hb_ hon hoff
     refine ⟨_, rfl, fun K hK => ?_⟩
     have e11 := eo 11 ha
     have e106 := eo 106 ha
     replace ha := am ha
     have BK509 := am Q_BK509
     have BK528 := am Q_BK528
     have BK529 := am Q_BK529
     have BK538 := am Q_BK538
     have HB := am Q_HB
     have hc0_ : w'.cell? ⟨gb528, 0, none⟩ = some (.int .i64 t519) := (Kk BK528.out 0).trans rfl
     have hc1_ : w'.cell? ⟨gb528, 1, none⟩ = some (.int .i64 t520) := (Kk BK528.out 1).trans rfl
     have hc2_ : w'.cell? ⟨gb528, 2, none⟩ = some (.int .i64 t521) := (Kk BK528.out 2).trans rfl
     have hc3_ : w'.cell? ⟨gb528, 3, none⟩ = some (.int .i64 t522) := (Kk BK528.out 3).trans rfl
     have hc4_ : w'.cell? ⟨gb528, 4, none⟩ = some (.int .i64 t523) := (Kk BK528.out 4).trans rfl
     have hc5_ : w'.cell? ⟨gb528, 5, none⟩ = some (.int .i64 t524) := (Kk BK528.out 5).trans rfl
     have hc6_ : w'.cell? ⟨gb528, 6, none⟩ = some (.bool t525) := (Kk BK528.out 6).trans rfl
     refine value_ (w1 := w') (v := .agg #[.int .i64 t519, .int .i64 t520, .int .i64 t521, .int .i64 t522, .int .i64 t523, .int .i64 t524, .bool t525]) (wanted_on rfl rfl rfl (e106.trans (by first | rfl | (simp [*]; done)))) rfl ?_ ?_
     ·go_simp
      (try simp only [i64_w])
      try rfl
     refine hK.out _ _ ⟨v540, v543, (by rw [ha.out]; exact putSel_upk 2 hb_ rfl rfl rfl), Q_BK509, Q_BK528, Q_BK529, Q_BK538, Q_HB, Q_HO541, fun h0_ => absurd ((hoff 5 (by kernel_rfl)).symm.trans h0_) (by decide)⟩
    refine steps_cons ?_ ?_
    ·rintro b a w' ⟨v540, v543, ha, Q_BK509, Q_BK528, Q_BK529, Q_BK538, Q_HB, Q_HO541, Q_HO544⟩ hb_ hon hoff
     refine ⟨_, rfl, fun K hK => ?_⟩
     have e109 := eu 109 2 ha (hon 4 (by kernel_rfl))
     have e106 := eo 106 ha
     replace ha := am ha
     have BK509 := am Q_BK509
     have BK528 := am Q_BK528
     have BK529 := am Q_BK529
     have BK538 := am Q_BK538
     have HB := am Q_HB
     refine Kd.R_lit_step k35 _ 35 ?hg (N := 110) ?hd (xs := ([(⟨t519, (⟨t520, t521⟩ : S33), t522, t523, t524, t525⟩ : S35)] : List (S35))) (inner := [.int .i64 t519, .int .i64 t520, .int .i64 t521, .int .i64 t522, .int .i64 t523, .int .i64 t524, .bool t525]) (ok := fun _ => True) (okp := fun _ => True) ?hr ?hp (fun _ hk => hk) trivial (Below.refl _ _) (Nat.le_refl _) (by simp) ?_; (case hd => rfl); (case hg => exact wanted_on rfl rfl rfl (e106.trans (by first | rfl | (simp [*]; done)))); (case hr => first | (go_simp; done) | (go_simp; rfl)); (case hp => exact (Reps.c7 (show Kd.M k35 _ _ _ (⟨t519, (⟨t520, t521⟩ : S33), t522, t523, t524, t525⟩ : S35) [.int .i64 t519, .int .i64 t520, .int .i64 t521, .int .i64 t522, .int .i64 t523, .int .i64 t524, .bool t525] from (k35_mkM _ _ _ (⟨t519, (⟨t520, t521⟩ : S33), t522, t523, t524, t525⟩ : S35) )) (Reps.none _ _)))
     intro v543 w93 ho94 hb hg_ hnew_
     clear hg_ hnew_
     (first | rw [← Ny542.out] at ho94 | (simp only [Int.reduceToNat] at ho94; rw [← Ny542.out] at ho94))
     have n0_ := am (Kd.R_lower (Kd.R_newB (Kd.R_newB ho94 (bB BK528.out)) (bB BK538.out)) (below_size (sB HB.out)))
     have n1_ := am (Kb (bB BK509.out) hb)
     have n2_ := am (Kb (bB BK528.out) hb)
     have n3_ := am (Kb (bB BK529.out) hb)
     have n4_ := am (Kb (bB BK538.out) hb)
     have n5_ := am (Kh (sB HB.out) hb)
     have z_HO541 := fun (h0_ : b 3 = true) => (show Kd.R k35 35 w93 w.heap.size (fun k_ => k_ ≠ gb528 ∧ k_ ≠ gb538) v540 y539 from by first | exact (Kd.R_elder' (by (with_reducible repeat (first | apply Kd.R_alloc | apply Kd.R_drewN | apply Kd.R_drew)); exact (Q_HO541 h0_)) (Kd.R_base ho94) hb) | exact Kt (Kd.R_elder' (by (with_reducible repeat (first | apply Kd.R_alloc | apply Kd.R_drewN | apply Kd.R_drew)); exact (Q_HO541 h0_)) (Kd.R_base ho94) hb) (fun _ h_ => by first | trivial | exact h_ | exact h_.1))
     clear BK509
     clear BK528
     clear BK529
     clear BK538
     clear HB
     have HO544 := n0_
     have BK509 := n1_
     have BK528 := n2_
     have BK529 := n3_
     have BK538 := n4_
     have HB := n5_
     clear n0_ n1_ n2_ n3_ n4_ n5_
     clear hb ho94
     refine hK.out _ _ ⟨v540, v543, (by rw [ha.out]; exact putSel_upk 3 hb_ rfl rfl rfl), (bB BK509.out), (bB BK528.out), (bB BK529.out), (bB BK538.out), (sB HB.out), z_HO541, fun _ => (by (with_reducible repeat (first | apply Kd.R_alloc | apply Kd.R_drewN | apply Kd.R_drew)); exact Kt HO544.out (fun _ hk => ⟨hk.1.2, hk.2⟩))⟩
    refine steps_cons ?_ ?_
    ·rintro b a w' ⟨v540, v543, ha, Q_BK509, Q_BK528, Q_BK529, Q_BK538, Q_HB, Q_HO541, Q_HO544⟩ hb_ hon hoff
     refine ⟨_, rfl, fun K hK => ?_⟩
     have e108 := eu 108 1 ha (hon 3 (by kernel_rfl))
     have e110 := eu 110 3 ha (hon 5 (by kernel_rfl))
     have e106 := eo 106 ha
     replace ha := am ha
     have BK509 := am Q_BK509
     have BK528 := am Q_BK528
     have BK529 := am Q_BK529
     have BK538 := am Q_BK538
     have HB := am Q_HB
     have HO541 := am (Q_HO541 (hon 3 (by kernel_rfl)))
     have HO544 := am (Q_HO544 (hon 5 (by kernel_rfl)))
     obtain ⟨Ao98, co98, eo98⟩ := Kd.R_slice HO541.out
     (first | subst eo98 | (injection eo98 with f1_ f2_ f3_; have f4_ := f1_.symm; have f5_ := f3_.symm; clear f1_ f2_ f3_; subst f4_; subst f5_))
     obtain ⟨Ao99, co99, eo99⟩ := Kd.R_slice HO544.out
     (first | subst eo99 | (injection eo99 with f1_ f2_ f3_; have f4_ := f1_.symm; have f5_ := f3_.symm; clear f1_ f2_ f3_; subst f4_; subst f5_))
     refine goes_ Try.func13 (by kernel_rfl) rfl #[.slice Ao98 y539.length co98, .slice Ao99 y542.length co99] (wanted_on rfl rfl rfl (e106.trans (by first | rfl | (simp [*]; done)))) rfl rfl (by first | (simp only [List.map_toArray, List.map_cons, List.map_nil, Act.eval, Array.getD_eq_getD_getElem?, Option.getD_some, e108, e110, e106]; done) | (simp only [List.map_toArray, List.map_cons, List.map_nil, Act.eval, Array.getD_eq_getD_getElem?, Option.getD_some, e108, e110, e106]; rfl)) ?_
     with_reducible refine (impl_IsWithinGrants.calls kj8 _ _ y539 _ _ y542 false _ ?side1 ?side2 ?side3 ?side4 A60.out).mono ?_
     (case side1 => exact cB ((Kq HO541.out).2.2))
     (case side2 => exact (Kq HO541.out).2.1)
     (case side3 => exact cB ((Kq HO544.out).2.2))
     (case side4 => exact (Kq HO544.out).2.1)
     rintro e w100 ⟨rfl, hb⟩
     refine ⟨_, rfl, ?_⟩
     replace HO541 := am (Ko (rB HO541.out) hb)
     replace HO544 := am (Ko (rB HO544.out) hb)
     replace BK509 := am (Kb (bB BK509.out) hb)
     replace BK528 := am (Kb (bB BK528.out) hb)
     replace BK529 := am (Kb (bB BK529.out) hb)
     replace BK538 := am (Kb (bB BK538.out) hb)
     replace HB := am (Kh (sB HB.out) hb)
     (try clear hb)
     (try clear hb2)
     (try clear hk)
     (try clear hi)
     refine hK.out _ _ ⟨.slice Ao98 y539.length co98, .slice Ao99 y542.length co99, (by rw [ha.out]; exact putSel_upk 4 hb_ rfl rfl rfl), (bB BK509.out), (bB BK528.out), (bB BK529.out), (bB BK538.out), (sB HB.out), fun _ => (rB HO541.out), fun _ => (rB HO544.out)⟩
    refine steps_cons ?_ ?_
    ·rintro b a w' ⟨v540, v543, ha, Q_BK509, Q_BK528, Q_BK529, Q_BK538, Q_HB, Q_HO541, Q_HO544⟩ hb_ hon hoff
     refine ⟨_, rfl, fun K hK => ?_⟩
     have e111 := eu 111 4 ha (hon 6 (by kernel_rfl))
     have e106 := eo 106 ha
     replace ha := am ha
     have BK509 := am Q_BK509
     have BK528 := am Q_BK528
     have BK529 := am Q_BK529
     have BK538 := am Q_BK538
     have HB := am Q_HB
     have HO541 := am (Q_HO541 (hon 3 (by kernel_rfl)))
     have HO544 := am (Q_HO544 (hon 5 (by kernel_rfl)))
     refine value_ (w1 := w') (v := .bool (!false)) (wanted_on rfl rfl rfl (e106.trans (by first | rfl | (simp [*]; done)))) rfl ?_ ?_
     ·go_simp
      (try simp only [i64_w])
      try rfl
     refine hK.out _ _ ⟨v540, v543, (by rw [ha.out]; exact putSel_upk 5 hb_ rfl rfl rfl), Q_BK509, Q_BK528, Q_BK529, Q_BK538, Q_HB, Q_HO541, Q_HO544⟩
    refine steps_cons ?_ ?_
    ·rintro b a w' ⟨v540, v543, ha, Q_BK509, Q_BK528, Q_BK529, Q_BK538, Q_HB, Q_HO541, Q_HO544⟩ hb_ hon hoff
     refine ⟨_, rfl, fun K hK => ?_⟩
     have e112 := eu 112 5 ha (hon 7 (by kernel_rfl))
     have e106 := eo 106 ha
     replace ha := am ha
     have BK509 := am Q_BK509
     have BK528 := am Q_BK528
     have BK529 := am Q_BK529
     have BK538 := am Q_BK538
     have HB := am Q_HB
     have HO541 := am (Q_HO541 (hon 3 (by kernel_rfl)))
     have HO544 := am (Q_HO544 (hon 5 (by kernel_rfl)))
     refine value_ (w1 := w') (v := .bool (!false)) (wanted_on rfl rfl rfl (e106.trans (by first | rfl | (simp [*]; done)))) rfl ?_ ?_
     ·go_simp
      (try simp only [i64_w])
      try rfl
     refine hK.out _ _ ⟨v540, v543, (by rw [ha.out]; exact putSel_upk 6 hb_ rfl rfl rfl), Q_BK509, Q_BK528, Q_BK529, Q_BK538, Q_HB, Q_HO541, Q_HO544⟩
    refine steps_cons ?_ ?_
    ·rintro b a w' ⟨v540, v543, ha, Q_BK509, Q_BK528, Q_BK529, Q_BK538, Q_HB, Q_HO541, Q_HO544⟩ hb_ hon hoff
     refine ⟨_, rfl, fun K hK => ?_⟩
     have e113 := eu 113 6 ha (hon 8 (by kernel_rfl))
     replace ha := am ha
     have BK509 := am Q_BK509
     have BK528 := am Q_BK528
     have BK529 := am Q_BK529
     have BK538 := am Q_BK538
     have HB := am Q_HB
     have HO541 := am (Q_HO541 (hon 3 (by kernel_rfl)))
     have HO544 := am (Q_HO544 (hon 5 (by kernel_rfl)))
     refine off_ (wanted_off rfl rfl rfl (e113.trans (by first | rfl | (simp [*]; done)))) ?_
     refine hK.out _ _ ⟨v540, v543, (by rw [ha.out]; exact putSel_upk 7 hb_ rfl rfl rfl), Q_BK509, Q_BK528, Q_BK529, Q_BK538, Q_HB, Q_HO541, Q_HO544⟩
    refine steps_cons ?_ ?_
    ·rintro b a w' ⟨v540, v543, ha, Q_BK509, Q_BK528, Q_BK529, Q_BK538, Q_HB, Q_HO541, Q_HO544⟩ hb_ hon hoff
     refine ⟨_, rfl, fun K hK => ?_⟩
     have e113 := eu 113 6 ha (hon 8 (by kernel_rfl))
     replace ha := am ha
     have BK509 := am Q_BK509
     have BK528 := am Q_BK528
     have BK529 := am Q_BK529
     have BK538 := am Q_BK538
     have HB := am Q_HB
     have HO541 := am (Q_HO541 (hon 3 (by kernel_rfl)))
     have HO544 := am (Q_HO544 (hon 5 (by kernel_rfl)))
     refine off_ (wanted_off rfl rfl rfl (e113.trans (by first | rfl | (simp [*]; done)))) ?_
     refine hK.out _ _ ⟨v540, v543, (by rw [ha.out]; exact putSel_upk 8 hb_ rfl rfl rfl), Q_BK509, Q_BK528, Q_BK529, Q_BK538, Q_HB, Q_HO541, Q_HO544⟩
    refine steps_cons ?_ ?_
    ·rintro b a w' ⟨v540, v543, ha, Q_BK509, Q_BK528, Q_BK529, Q_BK538, Q_HB, Q_HO541, Q_HO544⟩ hb_ hon hoff
     refine ⟨_, rfl, fun K hK => ?_⟩
     have e113 := eu 113 6 ha (hon 8 (by kernel_rfl))
     replace ha := am ha
     have BK509 := am Q_BK509
     have BK528 := am Q_BK528
     have BK529 := am Q_BK529
     have BK538 := am Q_BK538
     have HB := am Q_HB
     have HO541 := am (Q_HO541 (hon 3 (by kernel_rfl)))
     have HO544 := am (Q_HO544 (hon 5 (by kernel_rfl)))
     refine off_ (wanted_off rfl rfl rfl (e113.trans (by first | rfl | (simp [*]; done)))) ?_
     refine hK.out _ _ ⟨v540, v543, (by rw [ha.out]; exact putSel_upk 9 hb_ rfl rfl rfl), Q_BK509, Q_BK528, Q_BK529, Q_BK538, Q_HB, Q_HO541, Q_HO544⟩
    refine steps_cons ?_ ?_
    ·rintro b a w' ⟨v540, v543, ha, Q_BK509, Q_BK528, Q_BK529, Q_BK538, Q_HB, Q_HO541, Q_HO544⟩ hb_ hon hoff
     refine ⟨_, rfl, fun K hK => ?_⟩
     have e113 := eu 113 6 ha (hon 8 (by kernel_rfl))
     replace ha := am ha
     have BK509 := am Q_BK509
     have BK528 := am Q_BK528
     have BK529 := am Q_BK529
     have BK538 := am Q_BK538
     have HB := am Q_HB
     have HO541 := am (Q_HO541 (hon 3 (by kernel_rfl)))
     have HO544 := am (Q_HO544 (hon 5 (by kernel_rfl)))
     refine off_ (wanted_off rfl rfl rfl (e113.trans (by first | rfl | (simp [*]; done)))) ?_
     refine hK.out _ _ ⟨v540, v543, (by rw [ha.out]; exact putSel_upk 10 hb_ rfl rfl rfl), Q_BK509, Q_BK528, Q_BK529, Q_BK538, Q_HB, Q_HO541, Q_HO544⟩
    refine steps_cons ?_ ?_
    ·rintro b a w' ⟨v540, v543, ha, Q_BK509, Q_BK528, Q_BK529, Q_BK538, Q_HB, Q_HO541, Q_HO544⟩ hb_ hon hoff
     refine ⟨_, rfl, fun K hK => ?_⟩
     have e113 := eu 113 6 ha (hon 8 (by kernel_rfl))
     replace ha := am ha
     have BK509 := am Q_BK509
     have BK528 := am Q_BK528
     have BK529 := am Q_BK529
     have BK538 := am Q_BK538
     have HB := am Q_HB
     have HO541 := am (Q_HO541 (hon 3 (by kernel_rfl)))
     have HO544 := am (Q_HO544 (hon 5 (by kernel_rfl)))
     refine off_ (wanted_off rfl rfl rfl (e113.trans (by first | rfl | (simp [*]; done)))) ?_
     refine hK.out _ _ ⟨v540, v543, (by rw [ha.out]; exact putSel_upk 11 hb_ rfl rfl rfl), Q_BK509, Q_BK528, Q_BK529, Q_BK538, Q_HB, Q_HO541, Q_HO544⟩
    refine steps_cons ?_ ?_
    ·rintro b a w' ⟨v540, v543, ha, Q_BK509, Q_BK528, Q_BK529, Q_BK538, Q_HB, Q_HO541, Q_HO544⟩ hb_ hon hoff
     refine ⟨_, rfl, fun K hK => ?_⟩
     have e113 := eu 113 6 ha (hon 8 (by kernel_rfl))
     replace ha := am ha
     have BK509 := am Q_BK509
     have BK528 := am Q_BK528
     have BK529 := am Q_BK529
     have BK538 := am Q_BK538
     have HB := am Q_HB
     have HO541 := am (Q_HO541 (hon 3 (by kernel_rfl)))
     have HO544 := am (Q_HO544 (hon 5 (by kernel_rfl)))
     refine off_ (wanted_off rfl rfl rfl (e113.trans (by first | rfl | (simp [*]; done)))) ?_
     refine hK.out _ _ ⟨v540, v543, (by rw [ha.out]; exact putSel_upk 12 hb_ rfl rfl rfl), Q_BK509, Q_BK528, Q_BK529, Q_BK538, Q_HB, Q_HO541, Q_HO544⟩
    refine steps_cons ?_ ?_
    ·rintro b a w' ⟨v540, v543, ha, Q_BK509, Q_BK528, Q_BK529, Q_BK538, Q_HB, Q_HO541, Q_HO544⟩ hb_ hon hoff
     refine ⟨_, rfl, fun K hK => ?_⟩
     have e113 := eu 113 6 ha (hon 8 (by kernel_rfl))
     replace ha := am ha
     have BK509 := am Q_BK509
     have BK528 := am Q_BK528
     have BK529 := am Q_BK529
     have BK538 := am Q_BK538
     have HB := am Q_HB
     have HO541 := am (Q_HO541 (hon 3 (by kernel_rfl)))
     have HO544 := am (Q_HO544 (hon 5 (by kernel_rfl)))
     refine off_ (wanted_off rfl rfl rfl (e113.trans (by first | rfl | (simp [*]; done)))) ?_
     refine hK.out _ _ ⟨v540, v543, (by rw [ha.out]; exact putSel_upk 13 hb_ rfl rfl rfl), Q_BK509, Q_BK528, Q_BK529, Q_BK538, Q_HB, Q_HO541, Q_HO544⟩
    refine steps_cons ?_ ?_
    ·rintro b a w' ⟨v540, v543, ha, Q_BK509, Q_BK528, Q_BK529, Q_BK538, Q_HB, Q_HO541, Q_HO544⟩ hb_ hon hoff
     refine ⟨_, rfl, fun K hK => ?_⟩
     have e113 := eu 113 6 ha (hon 8 (by kernel_rfl))
     replace ha := am ha
     have BK509 := am Q_BK509
     have BK528 := am Q_BK528
     have BK529 := am Q_BK529
     have BK538 := am Q_BK538
     have HB := am Q_HB
     have HO541 := am (Q_HO541 (hon 3 (by kernel_rfl)))
     have HO544 := am (Q_HO544 (hon 5 (by kernel_rfl)))
     refine off_ (wanted_off rfl rfl rfl (e113.trans (by first | rfl | (simp [*]; done)))) ?_
     refine hK.out _ _ ⟨v540, v543, (by rw [ha.out]; exact putSel_upk 14 hb_ rfl rfl rfl), Q_BK509, Q_BK528, Q_BK529, Q_BK538, Q_HB, Q_HO541, Q_HO544⟩
    refine steps_cons ?_ ?_
    ·rintro b a w' ⟨v540, v543, ha, Q_BK509, Q_BK528, Q_BK529, Q_BK538, Q_HB, Q_HO541, Q_HO544⟩ hb_ hon hoff
     refine ⟨_, rfl, fun K hK => ?_⟩
     have e113 := eu 113 6 ha (hon 8 (by kernel_rfl))
     replace ha := am ha
     have BK509 := am Q_BK509
     have BK528 := am Q_BK528
     have BK529 := am Q_BK529
     have BK538 := am Q_BK538
     have HB := am Q_HB
     have HO541 := am (Q_HO541 (hon 3 (by kernel_rfl)))
     have HO544 := am (Q_HO544 (hon 5 (by kernel_rfl)))
     refine off_ (wanted_off rfl rfl rfl (e113.trans (by first | rfl | (simp [*]; done)))) ?_
     refine hK.out _ _ ⟨v540, v543, (by rw [ha.out]; exact putSel_upk 15 hb_ rfl rfl rfl), Q_BK509, Q_BK528, Q_BK529, Q_BK538, Q_HB, Q_HO541, Q_HO544⟩
    refine steps_cons ?_ ?_
    ·rintro b a w' ⟨v540, v543, ha, Q_BK509, Q_BK528, Q_BK529, Q_BK538, Q_HB, Q_HO541, Q_HO544⟩ hb_ hon hoff
     refine ⟨_, rfl, fun K hK => ?_⟩
     have e113 := eu 113 6 ha (hon 8 (by kernel_rfl))
     replace ha := am ha
     have BK509 := am Q_BK509
     have BK528 := am Q_BK528
     have BK529 := am Q_BK529
     have BK538 := am Q_BK538
     have HB := am Q_HB
     have HO541 := am (Q_HO541 (hon 3 (by kernel_rfl)))
     have HO544 := am (Q_HO544 (hon 5 (by kernel_rfl)))
     refine off_ (wanted_off rfl rfl rfl (e113.trans (by first | rfl | (simp [*]; done)))) ?_
     refine hK.out _ _ ⟨v540, v543, (by rw [ha.out]; exact putSel_upk 16 hb_ rfl rfl rfl), Q_BK509, Q_BK528, Q_BK529, Q_BK538, Q_HB, Q_HO541, Q_HO544⟩
    refine steps_cons ?_ ?_
    ·rintro b a w' ⟨v540, v543, ha, Q_BK509, Q_BK528, Q_BK529, Q_BK538, Q_HB, Q_HO541, Q_HO544⟩ hb_ hon hoff
     refine ⟨_, rfl, fun K hK => ?_⟩
     have e113 := eu 113 6 ha (hon 8 (by kernel_rfl))
     replace ha := am ha
     have BK509 := am Q_BK509
     have BK528 := am Q_BK528
     have BK529 := am Q_BK529
     have BK538 := am Q_BK538
     have HB := am Q_HB
     have HO541 := am (Q_HO541 (hon 3 (by kernel_rfl)))
     have HO544 := am (Q_HO544 (hon 5 (by kernel_rfl)))
     refine off_ (wanted_off rfl rfl rfl (e113.trans (by first | rfl | (simp [*]; done)))) ?_
     refine hK.out _ _ ⟨v540, v543, (by rw [ha.out]; exact putSel_upk 17 hb_ rfl rfl rfl), Q_BK509, Q_BK528, Q_BK529, Q_BK538, Q_HB, Q_HO541, Q_HO544⟩
    refine steps_cons ?_ ?_
    ·rintro b a w' ⟨v540, v543, ha, Q_BK509, Q_BK528, Q_BK529, Q_BK538, Q_HB, Q_HO541, Q_HO544⟩ hb_ hon hoff
     refine ⟨_, rfl, fun K hK => ?_⟩
     have e113 := eu 113 6 ha (hon 8 (by kernel_rfl))
     replace ha := am ha
     have BK509 := am Q_BK509
     have BK528 := am Q_BK528
     have BK529 := am Q_BK529
     have BK538 := am Q_BK538
     have HB := am Q_HB
     have HO541 := am (Q_HO541 (hon 3 (by kernel_rfl)))
     have HO544 := am (Q_HO544 (hon 5 (by kernel_rfl)))
     refine off_ (wanted_off rfl rfl rfl (e113.trans (by first | rfl | (simp [*]; done)))) ?_
     refine hK.out _ _ ⟨v540, v543, (by rw [ha.out]; exact putSel_upk 18 hb_ rfl rfl rfl), Q_BK509, Q_BK528, Q_BK529, Q_BK538, Q_HB, Q_HO541, Q_HO544⟩
    refine steps_cons ?_ ?_
    ·rintro b a w' ⟨v540, v543, ha, Q_BK509, Q_BK528, Q_BK529, Q_BK538, Q_HB, Q_HO541, Q_HO544⟩ hb_ hon hoff
     refine ⟨_, rfl, fun K hK => ?_⟩
     have e113 := eu 113 6 ha (hon 8 (by kernel_rfl))
     replace ha := am ha
     have BK509 := am Q_BK509
     have BK528 := am Q_BK528
     have BK529 := am Q_BK529
     have BK538 := am Q_BK538
     have HB := am Q_HB
     have HO541 := am (Q_HO541 (hon 3 (by kernel_rfl)))
     have HO544 := am (Q_HO544 (hon 5 (by kernel_rfl)))
     refine off_ (wanted_off rfl rfl rfl (e113.trans (by first | rfl | (simp [*]; done)))) ?_
     refine hK.out _ _ ⟨v540, v543, (by rw [ha.out]; exact putSel_upk 19 hb_ rfl rfl rfl), Q_BK509, Q_BK528, Q_BK529, Q_BK538, Q_HB, Q_HO541, Q_HO544⟩
    refine steps_cons ?_ ?_
    ·rintro b a w' ⟨v540, v543, ha, Q_BK509, Q_BK528, Q_BK529, Q_BK538, Q_HB, Q_HO541, Q_HO544⟩ hb_ hon hoff
     refine ⟨_, rfl, fun K hK => ?_⟩
     have e113 := eu 113 6 ha (hon 8 (by kernel_rfl))
     replace ha := am ha
     have BK509 := am Q_BK509
     have BK528 := am Q_BK528
     have BK529 := am Q_BK529
     have BK538 := am Q_BK538
     have HB := am Q_HB
     have HO541 := am (Q_HO541 (hon 3 (by kernel_rfl)))
     have HO544 := am (Q_HO544 (hon 5 (by kernel_rfl)))
     refine off_ (wanted_off rfl rfl rfl (e113.trans (by first | rfl | (simp [*]; done)))) ?_
     refine hK.out _ _ ⟨v540, v543, (by rw [ha.out]; exact putSel_upk 20 hb_ rfl rfl rfl), Q_BK509, Q_BK528, Q_BK529, Q_BK538, Q_HB, Q_HO541, Q_HO544⟩
    refine steps_cons ?_ ?_
    ·rintro b a w' ⟨v540, v543, ha, Q_BK509, Q_BK528, Q_BK529, Q_BK538, Q_HB, Q_HO541, Q_HO544⟩ hb_ hon hoff
     refine ⟨_, rfl, fun K hK => ?_⟩
     have e113 := eu 113 6 ha (hon 8 (by kernel_rfl))
     replace ha := am ha
     have BK509 := am Q_BK509
     have BK528 := am Q_BK528
     have BK529 := am Q_BK529
     have BK538 := am Q_BK538
     have HB := am Q_HB
     have HO541 := am (Q_HO541 (hon 3 (by kernel_rfl)))
     have HO544 := am (Q_HO544 (hon 5 (by kernel_rfl)))
     refine off_ (wanted_off rfl rfl rfl (e113.trans (by first | rfl | (simp [*]; done)))) ?_
     refine hK.out _ _ ⟨v540, v543, (by rw [ha.out]; exact putSel_upk 21 hb_ rfl rfl rfl), Q_BK509, Q_BK528, Q_BK529, Q_BK538, Q_HB, Q_HO541, Q_HO544⟩
    refine steps_cons ?_ ?_
    ·rintro b a w' ⟨v540, v543, ha, Q_BK509, Q_BK528, Q_BK529, Q_BK538, Q_HB, Q_HO541, Q_HO544⟩ hb_ hon hoff
     refine ⟨_, rfl, fun K hK => ?_⟩
     have e128 := eu 128 21 ha (hon 23 (by kernel_rfl))
     replace ha := am ha
     have BK509 := am Q_BK509
     have BK528 := am Q_BK528
     have BK529 := am Q_BK529
     have BK538 := am Q_BK538
     have HB := am Q_HB
     have HO541 := am (Q_HO541 (hon 3 (by kernel_rfl)))
     have HO544 := am (Q_HO544 (hon 5 (by kernel_rfl)))
     refine off_ (wanted_un rfl rfl rfl e128) ?_
     refine hK.out _ _ ⟨v540, v543, (by rw [ha.out]; exact putSel_upk 22 hb_ rfl rfl rfl), Q_BK509, Q_BK528, Q_BK529, Q_BK538, Q_HB, Q_HO541, Q_HO544⟩
    refine steps_cons ?_ ?_
    ·rintro b a w' ⟨v540, v543, ha, Q_BK509, Q_BK528, Q_BK529, Q_BK538, Q_HB, Q_HO541, Q_HO544⟩ hb_ hon hoff
     refine ⟨_, rfl, fun K hK => ?_⟩
     have e128 := eu 128 21 ha (hon 23 (by kernel_rfl))
     replace ha := am ha
     have BK509 := am Q_BK509
     have BK528 := am Q_BK528
     have BK529 := am Q_BK529
     have BK538 := am Q_BK538
     have HB := am Q_HB
     have HO541 := am (Q_HO541 (hon 3 (by kernel_rfl)))
     have HO544 := am (Q_HO544 (hon 5 (by kernel_rfl)))
     refine off_ (wanted_un rfl rfl rfl e128) ?_
     refine hK.out _ _ ⟨v540, v543, (by rw [ha.out]; exact putSel_upk 23 hb_ rfl rfl rfl), Q_BK509, Q_BK528, Q_BK529, Q_BK538, Q_HB, Q_HO541, Q_HO544⟩
    refine steps_cons ?_ ?_
    ·rintro b a w' ⟨v540, v543, ha, Q_BK509, Q_BK528, Q_BK529, Q_BK538, Q_HB, Q_HO541, Q_HO544⟩ hb_ hon hoff
     refine ⟨_, rfl, fun K hK => ?_⟩
     have e128 := eu 128 21 ha (hon 23 (by kernel_rfl))
     replace ha := am ha
     have BK509 := am Q_BK509
     have BK528 := am Q_BK528
     have BK529 := am Q_BK529
     have BK538 := am Q_BK538
     have HB := am Q_HB
     have HO541 := am (Q_HO541 (hon 3 (by kernel_rfl)))
     have HO544 := am (Q_HO544 (hon 5 (by kernel_rfl)))
     refine off_ (wanted_un rfl rfl rfl e128) ?_
     refine hK.out _ _ ⟨v540, v543, (by rw [ha.out]; exact putSel_upk 24 hb_ rfl rfl rfl), Q_BK509, Q_BK528, Q_BK529, Q_BK538, Q_HB, Q_HO541, Q_HO544⟩
    refine steps_cons ?_ ?_
    ·rintro b a w' ⟨v540, v543, ha, Q_BK509, Q_BK528, Q_BK529, Q_BK538, Q_HB, Q_HO541, Q_HO544⟩ hb_ hon hoff
     refine ⟨_, rfl, fun K hK => ?_⟩
     have e113 := eu 113 6 ha (hon 8 (by kernel_rfl))
     replace ha := am ha
     have BK509 := am Q_BK509
     have BK528 := am Q_BK528
     have BK529 := am Q_BK529
     have BK538 := am Q_BK538
     have HB := am Q_HB
     have HO541 := am (Q_HO541 (hon 3 (by kernel_rfl)))
     have HO544 := am (Q_HO544 (hon 5 (by kernel_rfl)))
     refine off_ (wanted_off rfl rfl rfl (e113.trans (by first | rfl | (simp [*]; done)))) ?_
     refine hK.out _ _ ⟨v540, v543, (by rw [ha.out]; exact putSel_upk 25 hb_ rfl rfl rfl), Q_BK509, Q_BK528, Q_BK529, Q_BK538, Q_HB, Q_HO541, Q_HO544⟩
    refine steps_cons ?_ ?_
    ·rintro b a w' ⟨v540, v543, ha, Q_BK509, Q_BK528, Q_BK529, Q_BK538, Q_HB, Q_HO541, Q_HO544⟩ hb_ hon hoff
     refine ⟨_, rfl, fun K hK => ?_⟩
     have e113 := eu 113 6 ha (hon 8 (by kernel_rfl))
     replace ha := am ha
     have BK509 := am Q_BK509
     have BK528 := am Q_BK528
     have BK529 := am Q_BK529
     have BK538 := am Q_BK538
     have HB := am Q_HB
     have HO541 := am (Q_HO541 (hon 3 (by kernel_rfl)))
     have HO544 := am (Q_HO544 (hon 5 (by kernel_rfl)))
     refine off_ (wanted_off rfl rfl rfl (e113.trans (by first | rfl | (simp [*]; done)))) ?_
     refine hK.out _ _ ⟨v540, v543, (by rw [ha.out]; exact putSel_upk 26 hb_ rfl rfl rfl), Q_BK509, Q_BK528, Q_BK529, Q_BK538, Q_HB, Q_HO541, Q_HO544⟩
    refine steps_cons ?_ ?_
    ·rintro b a w' ⟨v540, v543, ha, Q_BK509, Q_BK528, Q_BK529, Q_BK538, Q_HB, Q_HO541, Q_HO544⟩ hb_ hon hoff
     refine ⟨_, rfl, fun K hK => ?_⟩
     have e113 := eu 113 6 ha (hon 8 (by kernel_rfl))
     have e133 := eu 133 26 ha (hon 28 (by kernel_rfl))
     have e106 := eo 106 ha
     replace ha := am ha
     have BK509 := am Q_BK509
     have BK528 := am Q_BK528
     have BK529 := am Q_BK529
     have BK538 := am Q_BK538
     have HB := am Q_HB
     have HO541 := am (Q_HO541 (hon 3 (by kernel_rfl)))
     have HO544 := am (Q_HO544 (hon 5 (by kernel_rfl)))
     refine value_ (w1 := w') (v := .bool true) (wanted_on rfl rfl rfl (e106.trans (by first | rfl | (simp [*]; done)))) rfl ?_ ?_
     ·go_simp
      (try simp only [i64_w])
      try rfl
     refine hK.out _ _ ⟨v540, v543, (by rw [ha.out]; exact putSel_upk 27 hb_ rfl rfl rfl), Q_BK509, Q_BK528, Q_BK529, Q_BK538, Q_HB, Q_HO541, Q_HO544⟩
    refine steps_cons ?_ ?_
    ·rintro b a w' ⟨v540, v543, ha, Q_BK509, Q_BK528, Q_BK529, Q_BK538, Q_HB, Q_HO541, Q_HO544⟩ hb_ hon hoff
     refine ⟨_, rfl, fun K hK => ?_⟩
     have e106 := eo 106 ha
     have e134 := eu 134 27 ha (hon 29 (by kernel_rfl))
     replace ha := am ha
     have BK509 := am Q_BK509
     have BK528 := am Q_BK528
     have BK529 := am Q_BK529
     have BK538 := am Q_BK538
     have HB := am Q_HB
     have HO541 := am (Q_HO541 (hon 3 (by kernel_rfl)))
     have HO544 := am (Q_HO544 (hon 5 (by kernel_rfl)))
     refine value_ (w1 := w') (v := .bool true) (by rfl) rfl ?_ ?_
     ·go_simp
      (try simp only [i64_w])
      try rfl
     refine hK.out _ _ ⟨v540, v543, (by rw [ha.out]; exact putSel_upk 28 hb_ rfl rfl rfl), Q_BK509, Q_BK528, Q_BK529, Q_BK538, Q_HB, Q_HO541, Q_HO544⟩
    exact steps_nil
   rintro b a w100 hall ⟨v540, v543, ha, Q_BK509, Q_BK528, Q_BK529, Q_BK538, Q_HB, Q_HO541, Q_HO544⟩
   clear BK509 BK528 BK529 BK538 HB
   have hb2_ := hall 2 (by kernel_rfl)
   have hb3_ := hall 3 (by kernel_rfl)
   have hb4_ := hall 4 (by kernel_rfl)
   have hb5_ := hall 5 (by kernel_rfl)
   have hb6_ := hall 6 (by kernel_rfl)
   have hb7_ := hall 7 (by kernel_rfl)
   have hb8_ := hall 8 (by kernel_rfl)
   have hb9_ := hall 9 (by kernel_rfl)
   have hb10_ := hall 10 (by kernel_rfl)
   have hb11_ := hall 11 (by kernel_rfl)
   have hb12_ := hall 12 (by kernel_rfl)
   have hb13_ := hall 13 (by kernel_rfl)
   have hb14_ := hall 14 (by kernel_rfl)
   have hb15_ := hall 15 (by kernel_rfl)
   have hb16_ := hall 16 (by kernel_rfl)
   have hb17_ := hall 17 (by kernel_rfl)
   have hb18_ := hall 18 (by kernel_rfl)
   have hb19_ := hall 19 (by kernel_rfl)
   have hb20_ := hall 20 (by kernel_rfl)
   have hb21_ := hall 21 (by kernel_rfl)
   have hb22_ := hall 22 (by kernel_rfl)
   have hb23_ := hall 23 (by kernel_rfl)
   have hb24_ := hall 24 (by kernel_rfl)
   have hb25_ := hall 25 (by kernel_rfl)
   have hb26_ := hall 26 (by kernel_rfl)
   have hb27_ := hall 27 (by kernel_rfl)
   have hb28_ := hall 28 (by kernel_rfl)
   have hb29_ := hall 29 (by kernel_rfl)
   have hb30_ := hall 30 (by kernel_rfl)
   subst ha
   simp only [putSel, hb2_, hb3_, hb4_, hb5_, hb6_, hb7_, hb8_, hb9_, hb10_, hb11_, hb12_, hb13_, hb14_, hb15_, hb16_, hb17_, hb18_, hb19_, hb20_, hb21_, hb22_, hb23_, hb24_, hb25_, hb26_, hb27_, hb28_, hb29_, hb30_, if_true, Act.put, List.setIfInBounds_toArray, List.set_cons_zero, List.set_cons_succ]
   have BK509 := am Q_BK509
   clear Q_BK509
   have BK528 := am Q_BK528
   clear Q_BK528
   have BK529 := am Q_BK529
   clear Q_BK529
   have BK538 := am Q_BK538
   clear Q_BK538
   have HB := am Q_HB
   clear Q_HB
   have HO541 := am (Q_HO541 hb3_)
   clear Q_HO541
   have HO544 := am (Q_HO544 hb5_)
   clear Q_HO544
   clear hall hb2_ hb3_ hb4_ hb5_ hb6_ hb7_ hb8_ hb9_ hb10_ hb11_ hb12_ hb13_ hb14_ hb15_ hb16_ hb17_ hb18_ hb19_ hb20_ hb21_ hb22_ hb23_ hb24_ hb25_ hb26_ hb27_ hb28_ hb29_ hb30_
   try go_wp2
   go_meet
   case rel => exact ⟨_, (true), (by first | rfl | (simp; done) | (simp [*]; done)), H', ⟨by have := HJ8.out; first | omega | exact Nat.le_refl _⟩, ⟨bB BK509.out⟩, ⟨bB BK528.out⟩, ⟨bB BK529.out⟩, ⟨bB BK538.out⟩, ⟨sB HB.out⟩⟩
 ·replace c59 := bF c59
  subst c59
  replace H := hF H
  have H' := am H
  clear H
  try go_wp2
  have n0_ : Aside0 ((((((((w54.setCell ⟨gb538, 0, none⟩ (.int .i64 t530)).setCell ⟨gb538, 1, none⟩ (.int .i64 t531)).setCell ⟨gb538, 2, none⟩ (.int .i64 t532)).setCell ⟨gb538, 3, none⟩ (.int .i64 t533)).setCell ⟨gb538, 4, none⟩ (.int .i64 t534)).setCell ⟨gb538, 5, none⟩ (.int .i64 t535)).setCell ⟨gb538, 6, none⟩ (.bool t536)).heap[gb509]? = some (.cells #[.int .i64 t504, .int .i64 t505] 27 (0, 0))) := ⟨by refine bB ?_; refine blk_far ?_ NB509_538.out _; refine bB ?_; refine blk_far ?_ NB509_538.out _; refine bB ?_; refine blk_far ?_ NB509_538.out _; refine bB ?_; refine blk_far ?_ NB509_538.out _; refine bB ?_; refine blk_far ?_ NB509_538.out _; refine bB ?_; refine blk_far ?_ NB509_538.out _; refine bB ?_; refine blk_far ?_ NB509_538.out _; refine bB ?_; exact BK509.out⟩
  have n1_ : Aside0 ((((((((w54.setCell ⟨gb538, 0, none⟩ (.int .i64 t530)).setCell ⟨gb538, 1, none⟩ (.int .i64 t531)).setCell ⟨gb538, 2, none⟩ (.int .i64 t532)).setCell ⟨gb538, 3, none⟩ (.int .i64 t533)).setCell ⟨gb538, 4, none⟩ (.int .i64 t534)).setCell ⟨gb538, 5, none⟩ (.int .i64 t535)).setCell ⟨gb538, 6, none⟩ (.bool t536)).heap[gb528]? = some (.cells #[.int .i64 t519, .int .i64 t520, .int .i64 t521, .int .i64 t522, .int .i64 t523, .int .i64 t524, .bool t525] 35 (0, 0))) := ⟨by refine bB ?_; refine blk_far ?_ NB528_538.out _; refine bB ?_; refine blk_far ?_ NB528_538.out _; refine bB ?_; refine blk_far ?_ NB528_538.out _; refine bB ?_; refine blk_far ?_ NB528_538.out _; refine bB ?_; refine blk_far ?_ NB528_538.out _; refine bB ?_; refine blk_far ?_ NB528_538.out _; refine bB ?_; refine blk_far ?_ NB528_538.out _; refine bB ?_; exact BK528.out⟩
  have n2_ : Aside0 ((((((((w54.setCell ⟨gb538, 0, none⟩ (.int .i64 t530)).setCell ⟨gb538, 1, none⟩ (.int .i64 t531)).setCell ⟨gb538, 2, none⟩ (.int .i64 t532)).setCell ⟨gb538, 3, none⟩ (.int .i64 t533)).setCell ⟨gb538, 4, none⟩ (.int .i64 t534)).setCell ⟨gb538, 5, none⟩ (.int .i64 t535)).setCell ⟨gb538, 6, none⟩ (.bool t536)).heap[gb529]? = some (.cells #[.int .i64 t526, .int .i64 t527] 33 (0, 0))) := ⟨by refine bB ?_; refine blk_far ?_ NB529_538.out _; refine bB ?_; refine blk_far ?_ NB529_538.out _; refine bB ?_; refine blk_far ?_ NB529_538.out _; refine bB ?_; refine blk_far ?_ NB529_538.out _; refine bB ?_; refine blk_far ?_ NB529_538.out _; refine bB ?_; refine blk_far ?_ NB529_538.out _; refine bB ?_; refine blk_far ?_ NB529_538.out _; refine bB ?_; exact BK529.out⟩
  have n3_ : Aside0 ((((((((w54.setCell ⟨gb538, 0, none⟩ (.int .i64 t530)).setCell ⟨gb538, 1, none⟩ (.int .i64 t531)).setCell ⟨gb538, 2, none⟩ (.int .i64 t532)).setCell ⟨gb538, 3, none⟩ (.int .i64 t533)).setCell ⟨gb538, 4, none⟩ (.int .i64 t534)).setCell ⟨gb538, 5, none⟩ (.int .i64 t535)).setCell ⟨gb538, 6, none⟩ (.bool t536)).heap[gb538]? = some (.cells #[.int .i64 t530, .int .i64 t531, .int .i64 t532, .int .i64 t533, .int .i64 t534, .int .i64 t535, .bool t536] 35 (0, 0))) := ⟨by refine bB ?_; refine Kg (cs := #[.int .i64 t530, .int .i64 t531, .int .i64 t532, .int .i64 t533, .int .i64 t534, .int .i64 t535, .bool false]) ?_ 6 _ rfl; refine bB ?_; refine Kg (cs := #[.int .i64 t530, .int .i64 t531, .int .i64 t532, .int .i64 t533, .int .i64 t534, .int .i64 0, .bool false]) ?_ 5 _ rfl; refine bB ?_; refine Kg (cs := #[.int .i64 t530, .int .i64 t531, .int .i64 t532, .int .i64 t533, .int .i64 0, .int .i64 0, .bool false]) ?_ 4 _ rfl; refine bB ?_; refine Kg (cs := #[.int .i64 t530, .int .i64 t531, .int .i64 t532, .int .i64 0, .int .i64 0, .int .i64 0, .bool false]) ?_ 3 _ rfl; refine bB ?_; refine Kg (cs := #[.int .i64 t530, .int .i64 t531, .int .i64 0, .int .i64 0, .int .i64 0, .int .i64 0, .bool false]) ?_ 2 _ rfl; refine bB ?_; refine Kg (cs := #[.int .i64 t530, .int .i64 0, .int .i64 0, .int .i64 0, .int .i64 0, .int .i64 0, .bool false]) ?_ 1 _ rfl; refine bB ?_; refine Kg (cs := #[.int .i64 0, .int .i64 0, .int .i64 0, .int .i64 0, .int .i64 0, .int .i64 0, .bool false]) ?_ 0 _ rfl; refine bB ?_; exact BK538.out⟩
  have n4_ : Aside0 (Below w.heap.size w (((((((w54.setCell ⟨gb538, 0, none⟩ (.int .i64 t530)).setCell ⟨gb538, 1, none⟩ (.int .i64 t531)).setCell ⟨gb538, 2, none⟩ (.int .i64 t532)).setCell ⟨gb538, 3, none⟩ (.int .i64 t533)).setCell ⟨gb538, 4, none⟩ (.int .i64 t534)).setCell ⟨gb538, 5, none⟩ (.int .i64 t535)).setCell ⟨gb538, 6, none⟩ (.bool t536))) := ⟨sB HB.out⟩
  (try clear BK509)
  (try clear BK528)
  (try clear BK529)
  (try clear BK538)
  (try clear HB)
  generalize (((((((w54.setCell ⟨gb538, 0, none⟩ (.int .i64 t530)).setCell ⟨gb538, 1, none⟩ (.int .i64 t531)).setCell ⟨gb538, 2, none⟩ (.int .i64 t532)).setCell ⟨gb538, 3, none⟩ (.int .i64 t533)).setCell ⟨gb538, 4, none⟩ (.int .i64 t534)).setCell ⟨gb538, 5, none⟩ (.int .i64 t535)).setCell ⟨gb538, 6, none⟩ (.bool t536)) = w101 at n0_ n1_ n2_ n3_ n4_ ⊢
  have BK509 := n0_
  have BK528 := n1_
  have BK529 := n2_
  have BK538 := n3_
  have HB := n4_
  clear n0_ n1_ n2_ n3_ n4_
  replace BK509 := am (blk_drew BK509.out)
  replace BK528 := am (blk_drew BK528.out)
  replace BK529 := am (blk_drew BK529.out)
  replace BK538 := am (blk_drew BK538.out)
  replace HB := am (Ks HB.out)
  refine start_ (n := 31) (S := fun w' => True) (ds := []) #[z,z,z,z,z,z,z,z,z,z,z,z,z,z,z,z,z,z,z,z,z,z,z,z,z,z,z,z,z,z,z] (by kernel_rfl) rfl rfl trivial (fun hHeld => ?_); refine with_tabW laws_FnNarrowed.tab11 laws_FnNarrowed.bits11 (fun HT_ HW_ => ?_)
  generalize w101.drew = w102 at BK509 BK528 BK529 BK538 HB hHeld ⊢
  refine pu 0 105 #[o,z,z,z,z,z,z,z,z,z,z,z,z,z,z,z,z,z,z,z,z,z,z,z,z,z,z,z,z,z,z] HT_ ?_
  refine pu 1 106 #[o,o,z,z,z,z,z,z,z,z,z,z,z,z,z,z,z,z,z,z,z,z,z,z,z,z,z,z,z,z,z] HT_ ?_
  refine pn 2 107 #[o,o,o,z,z,z,z,z,z,z,z,z,z,z,z,z,z,z,z,z,z,z,z,z,z,z,z,z,z,z,z] HT_ ?_
  refine pn 3 108 #[o,o,o,o,z,z,z,z,z,z,z,z,z,z,z,z,z,z,z,z,z,z,z,z,z,z,z,z,z,z,z] HT_ ?_
  refine pn 4 109 #[o,o,o,o,o,z,z,z,z,z,z,z,z,z,z,z,z,z,z,z,z,z,z,z,z,z,z,z,z,z,z] HT_ ?_
  refine pn 5 110 #[o,o,o,o,o,o,z,z,z,z,z,z,z,z,z,z,z,z,z,z,z,z,z,z,z,z,z,z,z,z,z] HT_ ?_
  refine pn 6 111 #[o,o,o,o,o,o,o,z,z,z,z,z,z,z,z,z,z,z,z,z,z,z,z,z,z,z,z,z,z,z,z] HT_ ?_
  refine pn 7 112 #[o,o,o,o,o,o,o,o,z,z,z,z,z,z,z,z,z,z,z,z,z,z,z,z,z,z,z,z,z,z,z] HT_ ?_
  refine pn 8 113 #[o,o,o,o,o,o,o,o,o,z,z,z,z,z,z,z,z,z,z,z,z,z,z,z,z,z,z,z,z,z,z] HT_ ?_
  refine pn 9 114 #[o,o,o,o,o,o,o,o,o,o,z,z,z,z,z,z,z,z,z,z,z,z,z,z,z,z,z,z,z,z,z] HT_ ?_
  refine pn 10 115 #[o,o,o,o,o,o,o,o,o,o,o,z,z,z,z,z,z,z,z,z,z,z,z,z,z,z,z,z,z,z,z] HT_ ?_
  refine pn 11 116 #[o,o,o,o,o,o,o,o,o,o,o,o,z,z,z,z,z,z,z,z,z,z,z,z,z,z,z,z,z,z,z] HT_ ?_
  refine pn 12 117 #[o,o,o,o,o,o,o,o,o,o,o,o,o,z,z,z,z,z,z,z,z,z,z,z,z,z,z,z,z,z,z] HT_ ?_
  refine pn 13 118 #[o,o,o,o,o,o,o,o,o,o,o,o,o,o,z,z,z,z,z,z,z,z,z,z,z,z,z,z,z,z,z] HT_ ?_
  refine pn 14 119 #[o,o,o,o,o,o,o,o,o,o,o,o,o,o,o,z,z,z,z,z,z,z,z,z,z,z,z,z,z,z,z] HT_ ?_
  refine pn 15 120 #[o,o,o,o,o,o,o,o,o,o,o,o,o,o,o,o,z,z,z,z,z,z,z,z,z,z,z,z,z,z,z] HT_ ?_
  refine pn 16 121 #[o,o,o,o,o,o,o,o,o,o,o,o,o,o,o,o,o,z,z,z,z,z,z,z,z,z,z,z,z,z,z] HT_ ?_
  refine pn 17 122 #[o,o,o,o,o,o,o,o,o,o,o,o,o,o,o,o,o,o,z,z,z,z,z,z,z,z,z,z,z,z,z] HT_ ?_
  refine pn 18 123 #[o,o,o,o,o,o,o,o,o,o,o,o,o,o,o,o,o,o,o,z,z,z,z,z,z,z,z,z,z,z,z] HT_ ?_
  refine pn 19 124 #[o,o,o,o,o,o,o,o,o,o,o,o,o,o,o,o,o,o,o,o,z,z,z,z,z,z,z,z,z,z,z] HT_ ?_
  refine pn 20 125 #[o,o,o,o,o,o,o,o,o,o,o,o,o,o,o,o,o,o,o,o,o,z,z,z,z,z,z,z,z,z,z] HT_ ?_
  refine pn 21 126 #[o,o,o,o,o,o,o,o,o,o,o,o,o,o,o,o,o,o,o,o,o,o,z,z,z,z,z,z,z,z,z] HT_ ?_
  refine pn 22 127 #[o,o,o,o,o,o,o,o,o,o,o,o,o,o,o,o,o,o,o,o,o,o,o,z,z,z,z,z,z,z,z] HT_ ?_
  refine pn 23 128 #[o,o,o,o,o,o,o,o,o,o,o,o,o,o,o,o,o,o,o,o,o,o,o,o,z,z,z,z,z,z,z] HT_ ?_
  refine pn 24 129 #[o,o,o,o,o,o,o,o,o,o,o,o,o,o,o,o,o,o,o,o,o,o,o,o,o,z,z,z,z,z,z] HT_ ?_
  refine pn 25 130 #[o,o,o,o,o,o,o,o,o,o,o,o,o,o,o,o,o,o,o,o,o,o,o,o,o,o,z,z,z,z,z] HT_ ?_
  refine pn 26 131 #[o,o,o,o,o,o,o,o,o,o,o,o,o,o,o,o,o,o,o,o,o,o,o,o,o,o,o,z,z,z,z] HT_ ?_
  refine pn 27 132 #[o,o,o,o,o,o,o,o,o,o,o,o,o,o,o,o,o,o,o,o,o,o,o,o,o,o,o,o,z,z,z] HT_ ?_
  refine pn 28 133 #[o,o,o,o,o,o,o,o,o,o,o,o,o,o,o,o,o,o,o,o,o,o,o,o,o,o,o,o,o,z,z] HT_ ?_
  refine pn 29 134 #[o,o,o,o,o,o,o,o,o,o,o,o,o,o,o,o,o,o,o,o,o,o,o,o,o,o,o,o,o,o,z] HT_ ?_
  refine pu 30 135 #[o,o,o,o,o,o,o,o,o,o,o,o,o,o,o,o,o,o,o,o,o,o,o,o,o,o,o,o,o,o,o] HT_ ?_
  refine done_ (done_of HT_.out (by kernel_rfl)) ?_
  try go_wp2
  go_meet
  case rel => exact ⟨_, (false), (by first | rfl | (simp; done) | (simp [*]; done)), H', ⟨by have := HJ8.out; first | omega | exact Nat.le_refl _⟩, ⟨bB BK509.out⟩, ⟨bB BK528.out⟩, ⟨bB BK529.out⟩, ⟨bB BK538.out⟩, ⟨sB HB.out⟩⟩

end Go.Proofs.Ytilneejgliglhaa.QN
