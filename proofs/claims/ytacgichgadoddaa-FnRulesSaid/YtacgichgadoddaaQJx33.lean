/- Go functions as Lean functions, each with its walk; printed by a program of this session (a scratch copy of print.py that follows nested field addresses and tells a law for the answer true). -/
import Derived.Test.YtacgichgadoddaaQJx0
import Derived.Test.YtacgichgadoddaaQJx14
import Derived.Test.YtacgichgadoddaaQJx19
import Derived.Test.YtacgichgadoddaaQJx26
import Derived.Test.YtacgichgadoddaaQJx27
import Derived.Test.YtacgichgadoddaaQJx29
import Derived.Test.YtacgichgadoddaaQJx31
import Derived.Test.YtacgichgadoddaaQJx6
import Derived.Test.YtacgichgadoddaaQJx7
import Derived.Test.YtacgichgadoddaaQJxM0
namespace Go.Proofs.Ytacgichgadoddaa.QJ
open Go.RowKit Go.Proofs.YtacgichgadoddaaW.PrintWords Go.Proofs.YtacgichgadoddaaW.PrintLast Go.Proofs.YtacgichgadoddaaW.PrintMore Go.Proofs.Ytacgichgadoddaa.Short
attribute [local go_sem] max2_int min2_int max_two min_two max_three min_three max_four min_four   -- for this text's walks alone
set_option linter.unusedVariables false
set_option linter.unusedSimpArgs false

/-! ### laws_FnRules: function 10 -/
mutual
def laws_FnRules.j0 : Nat → List Int → Bool → Int → Int → Int → Int → Int → Int → Int → Int → Int → Int → Int → Int → Int → Int → Int → Int → Option (Bool)
 | 0, _, _, _, _, _, _, _, _, _, _, _, _, _, _, _, _, _, _ => none
 | k + 1, x0, x48, x378000, x378001, x378002, x378003, x378004, x378005, x378006, x378007, x379000, x379001, x379002, x379003, x379004, x379005, x379006, x379007 => if x48 = true then (some false) else ((spec_DrawApplies.f k x0).bind fun bt388 => ((impl_Applies.f k bt388.1 bt388.2.1 bt388.2.2.1 bt388.2.2.2.1 bt388.2.2.2.2.1 bt388.2.2.2.2.2.1 bt388.2.2.2.2.2.2.1 bt388.2.2.2.2.2.2.2.1 bt388.2.2.2.2.2.2.2.2.1 bt388.2.2.2.2.2.2.2.2.2.1 bt388.2.2.2.2.2.2.2.2.2.2).bind fun t401 => (if t401 = true then ((impl_IsRule.f k bt388.1 bt388.2.1 bt388.2.2.1 bt388.2.2.2.1 bt388.2.2.2.2.1 bt388.2.2.2.2.2.1 bt388.2.2.2.2.2.2.1 bt388.2.2.2.2.2.2.2.1).bind fun t402 => (if t402 = true then ((impl_IsRequest.f bt388.2.2.2.2.2.2.2.2.1 bt388.2.2.2.2.2.2.2.2.2.1 bt388.2.2.2.2.2.2.2.2.2.2).bind fun t403 => (if t403 = true then ((impl_MatchSite.f bt388.2.2.1 bt388.2.2.2.1 bt388.2.2.2.2.2.2.2.2.1 bt388.2.2.2.2.2.2.2.2.2.1).bind fun t404 => (laws_FnRules.j1 k x0 (!t404) x378000 x378001 x378002 x378003 x378004 x378005 x378006 x378007 x379000 x379001 x379002 x379003 x379004 x379005 x379006 x379007 bt388.1 bt388.2.1 bt388.2.2.1 bt388.2.2.2.1 bt388.2.2.2.2.1 bt388.2.2.2.2.2.1 bt388.2.2.2.2.2.2.1 bt388.2.2.2.2.2.2.2.1)) else (laws_FnRules.j1 k x0 true x378000 x378001 x378002 x378003 x378004 x378005 x378006 x378007 x379000 x379001 x379002 x379003 x379004 x379005 x379006 x379007 bt388.1 bt388.2.1 bt388.2.2.1 bt388.2.2.2.1 bt388.2.2.2.2.1 bt388.2.2.2.2.2.1 bt388.2.2.2.2.2.2.1 bt388.2.2.2.2.2.2.2.1))) else (laws_FnRules.j1 k x0 true x378000 x378001 x378002 x378003 x378004 x378005 x378006 x378007 x379000 x379001 x379002 x379003 x379004 x379005 x379006 x379007 bt388.1 bt388.2.1 bt388.2.2.1 bt388.2.2.2.1 bt388.2.2.2.2.1 bt388.2.2.2.2.2.1 bt388.2.2.2.2.2.2.1 bt388.2.2.2.2.2.2.2.1))) else (laws_FnRules.j1 k x0 false x378000 x378001 x378002 x378003 x378004 x378005 x378006 x378007 x379000 x379001 x379002 x379003 x379004 x379005 x379006 x379007 bt388.1 bt388.2.1 bt388.2.2.1 bt388.2.2.2.1 bt388.2.2.2.2.1 bt388.2.2.2.2.2.1 bt388.2.2.2.2.2.2.1 bt388.2.2.2.2.2.2.2.1))))
def laws_FnRules.j1 : Nat → List Int → Bool → Int → Int → Int → Int → Int → Int → Int → Int → Int → Int → Int → Int → Int → Int → Int → Int → Int → Int → Int → Int → Int → Int → Int → Int → Option (Bool)
 | 0, _, _, _, _, _, _, _, _, _, _, _, _, _, _, _, _, _, _, _, _, _, _, _, _, _, _ => none
 | k + 1, x0, x74, x378000, x378001, x378002, x378003, x378004, x378005, x378006, x378007, x379000, x379001, x379002, x379003, x379004, x379005, x379006, x379007, x400000, x400001, x400002, x400003, x400004, x400005, x400006, x400007 => if x74 = true then (some false) else ((impl_IsBefore.f k x378000 x378001 x378002 x378003 x378004 x378005 x378006 x378007 x379000 x379001 x379002 x379003 x379004 x379005 x379006 x379007).bind fun t405 => (if t405 = true then ((impl_IsBefore.f k x379000 x379001 x379002 x379003 x379004 x379005 x379006 x379007 x400000 x400001 x400002 x400003 x400004 x400005 x400006 x400007).bind fun t406 => (if t406 = true then ((impl_IsBefore.f k x378000 x378001 x378002 x378003 x378004 x378005 x378006 x378007 x400000 x400001 x400002 x400003 x400004 x400005 x400006 x400007).bind fun t407 => (laws_FnRules.j2 k x0 (!t407) x400000 x400001 x400002 x400003 x400004 x400005 x400006 x400007)) else (laws_FnRules.j2 k x0 false x400000 x400001 x400002 x400003 x400004 x400005 x400006 x400007))) else (laws_FnRules.j2 k x0 false x400000 x400001 x400002 x400003 x400004 x400005 x400006 x400007)))
def laws_FnRules.j2 : Nat → List Int → Bool → Int → Int → Int → Int → Int → Int → Int → Int → Option (Bool)
 | 0, _, _, _, _, _, _, _, _, _, _ => none
 | k + 1, x0, x88, x400000, x400001, x400002, x400003, x400004, x400005, x400006, x400007 => if x88 = true then (some false) else ((spec_DrawRulesOf.f k x0).bind fun bt408 => ((impl_RulesOf.f k bt408.1 bt408.2).bind fun t412 => (laws_FnRules.l0 k bt408.2 t412 0 x400000 x400001 x400002 x400003 x400004 x400005 x400006 x400007)))
def laws_FnRules.l0 : Nat → Int → List (S35) → Int → Int → Int → Int → Int → Int → Int → Int → Int → Option (Bool)
 | 0, _, _, _, _, _, _, _, _, _, _, _ => none
 | k + 1, x8, x9, x10, x400000, x400001, x400002, x400003, x400004, x400005, x400006, x400007 => if x10 < (x9.length : Int) then (if 0 ≤ x10 then (if ((rd_T35 x9 x10).f0) = x8 then (laws_FnRules.l0 k x8 x9 (wrap64 (x10 + 1)) x400000 x400001 x400002 x400003 x400004 x400005 x400006 x400007) else (some false)) else (none)) else ((impl_IsRule.f k x400000 x400001 x400002 x400003 x400004 x400005 x400006 x400007).bind fun t416 => (if t416 = true then ((impl_ActionName.f x400005).bind fun t417 => (some (t417.toList != ([] : List UInt8)))) else (some true)))
end
def laws_FnRules.f (k : Nat) (l0 : List Int) : Option (Bool) := (laws_big.f l0).bind fun t360 => (if t360 = true then (some true) else ((spec_DrawIsBefore.f k l0).bind fun bt361 => ((impl_IsBefore.f k bt361.1 bt361.2.1 bt361.2.2.1 bt361.2.2.2.1 bt361.2.2.2.2.1 bt361.2.2.2.2.2.1 bt361.2.2.2.2.2.2.1 bt361.2.2.2.2.2.2.2.1 bt361.1 bt361.2.1 bt361.2.2.1 bt361.2.2.2.1 bt361.2.2.2.2.1 bt361.2.2.2.2.2.1 bt361.2.2.2.2.2.2.1 bt361.2.2.2.2.2.2.2.1).bind fun t379 => (if t379 = true then (laws_FnRules.j0 k l0 true bt361.1 bt361.2.1 bt361.2.2.1 bt361.2.2.2.1 bt361.2.2.2.2.1 bt361.2.2.2.2.2.1 bt361.2.2.2.2.2.2.1 bt361.2.2.2.2.2.2.2.1 bt361.2.2.2.2.2.2.2.2.1 bt361.2.2.2.2.2.2.2.2.2.1 bt361.2.2.2.2.2.2.2.2.2.2.1 bt361.2.2.2.2.2.2.2.2.2.2.2.1 bt361.2.2.2.2.2.2.2.2.2.2.2.2.1 bt361.2.2.2.2.2.2.2.2.2.2.2.2.2.1 bt361.2.2.2.2.2.2.2.2.2.2.2.2.2.2.1 bt361.2.2.2.2.2.2.2.2.2.2.2.2.2.2.2) else ((impl_IsBefore.f k bt361.1 bt361.2.1 bt361.2.2.1 bt361.2.2.2.1 bt361.2.2.2.2.1 bt361.2.2.2.2.2.1 bt361.2.2.2.2.2.2.1 bt361.2.2.2.2.2.2.2.1 bt361.2.2.2.2.2.2.2.2.1 bt361.2.2.2.2.2.2.2.2.2.1 bt361.2.2.2.2.2.2.2.2.2.2.1 bt361.2.2.2.2.2.2.2.2.2.2.2.1 bt361.2.2.2.2.2.2.2.2.2.2.2.2.1 bt361.2.2.2.2.2.2.2.2.2.2.2.2.2.1 bt361.2.2.2.2.2.2.2.2.2.2.2.2.2.2.1 bt361.2.2.2.2.2.2.2.2.2.2.2.2.2.2.2).bind fun t380 => (if t380 = true then ((impl_IsBefore.f k bt361.2.2.2.2.2.2.2.2.1 bt361.2.2.2.2.2.2.2.2.2.1 bt361.2.2.2.2.2.2.2.2.2.2.1 bt361.2.2.2.2.2.2.2.2.2.2.2.1 bt361.2.2.2.2.2.2.2.2.2.2.2.2.1 bt361.2.2.2.2.2.2.2.2.2.2.2.2.2.1 bt361.2.2.2.2.2.2.2.2.2.2.2.2.2.2.1 bt361.2.2.2.2.2.2.2.2.2.2.2.2.2.2.2 bt361.1 bt361.2.1 bt361.2.2.1 bt361.2.2.2.1 bt361.2.2.2.2.1 bt361.2.2.2.2.2.1 bt361.2.2.2.2.2.2.1 bt361.2.2.2.2.2.2.2.1).bind fun t381 => (if t381 = true then (laws_FnRules.j0 k l0 true bt361.1 bt361.2.1 bt361.2.2.1 bt361.2.2.2.1 bt361.2.2.2.2.1 bt361.2.2.2.2.2.1 bt361.2.2.2.2.2.2.1 bt361.2.2.2.2.2.2.2.1 bt361.2.2.2.2.2.2.2.2.1 bt361.2.2.2.2.2.2.2.2.2.1 bt361.2.2.2.2.2.2.2.2.2.2.1 bt361.2.2.2.2.2.2.2.2.2.2.2.1 bt361.2.2.2.2.2.2.2.2.2.2.2.2.1 bt361.2.2.2.2.2.2.2.2.2.2.2.2.2.1 bt361.2.2.2.2.2.2.2.2.2.2.2.2.2.2.1 bt361.2.2.2.2.2.2.2.2.2.2.2.2.2.2.2) else ((impl_IsBefore.f k bt361.1 bt361.2.1 bt361.2.2.1 bt361.2.2.2.1 bt361.2.2.2.2.1 bt361.2.2.2.2.2.1 bt361.2.2.2.2.2.2.1 bt361.2.2.2.2.2.2.2.1 bt361.2.2.2.2.2.2.2.2.1 bt361.2.2.2.2.2.2.2.2.2.1 bt361.2.2.2.2.2.2.2.2.2.2.1 bt361.2.2.2.2.2.2.2.2.2.2.2.1 bt361.2.2.2.2.2.2.2.2.2.2.2.2.1 bt361.2.2.2.2.2.2.2.2.2.2.2.2.2.1 bt361.2.2.2.2.2.2.2.2.2.2.2.2.2.2.1 bt361.2.2.2.2.2.2.2.2.2.2.2.2.2.2.2).bind fun t382 => (if t382 = true then (laws_FnRules.j0 k l0 false bt361.1 bt361.2.1 bt361.2.2.1 bt361.2.2.2.1 bt361.2.2.2.2.1 bt361.2.2.2.2.2.1 bt361.2.2.2.2.2.2.1 bt361.2.2.2.2.2.2.2.1 bt361.2.2.2.2.2.2.2.2.1 bt361.2.2.2.2.2.2.2.2.2.1 bt361.2.2.2.2.2.2.2.2.2.2.1 bt361.2.2.2.2.2.2.2.2.2.2.2.1 bt361.2.2.2.2.2.2.2.2.2.2.2.2.1 bt361.2.2.2.2.2.2.2.2.2.2.2.2.2.1 bt361.2.2.2.2.2.2.2.2.2.2.2.2.2.2.1 bt361.2.2.2.2.2.2.2.2.2.2.2.2.2.2.2) else ((impl_IsBefore.f k bt361.2.2.2.2.2.2.2.2.1 bt361.2.2.2.2.2.2.2.2.2.1 bt361.2.2.2.2.2.2.2.2.2.2.1 bt361.2.2.2.2.2.2.2.2.2.2.2.1 bt361.2.2.2.2.2.2.2.2.2.2.2.2.1 bt361.2.2.2.2.2.2.2.2.2.2.2.2.2.1 bt361.2.2.2.2.2.2.2.2.2.2.2.2.2.2.1 bt361.2.2.2.2.2.2.2.2.2.2.2.2.2.2.2 bt361.1 bt361.2.1 bt361.2.2.1 bt361.2.2.2.1 bt361.2.2.2.2.1 bt361.2.2.2.2.2.1 bt361.2.2.2.2.2.2.1 bt361.2.2.2.2.2.2.2.1).bind fun t383 => (if t383 = true then (laws_FnRules.j0 k l0 false bt361.1 bt361.2.1 bt361.2.2.1 bt361.2.2.2.1 bt361.2.2.2.2.1 bt361.2.2.2.2.2.1 bt361.2.2.2.2.2.2.1 bt361.2.2.2.2.2.2.2.1 bt361.2.2.2.2.2.2.2.2.1 bt361.2.2.2.2.2.2.2.2.2.1 bt361.2.2.2.2.2.2.2.2.2.2.1 bt361.2.2.2.2.2.2.2.2.2.2.2.1 bt361.2.2.2.2.2.2.2.2.2.2.2.2.1 bt361.2.2.2.2.2.2.2.2.2.2.2.2.2.1 bt361.2.2.2.2.2.2.2.2.2.2.2.2.2.2.1 bt361.2.2.2.2.2.2.2.2.2.2.2.2.2.2.2) else ((laws_sameRule.f bt361.1 bt361.2.1 bt361.2.2.1 bt361.2.2.2.1 bt361.2.2.2.2.1 bt361.2.2.2.2.2.1 bt361.2.2.2.2.2.2.1 bt361.2.2.2.2.2.2.2.1 bt361.2.2.2.2.2.2.2.2.1 bt361.2.2.2.2.2.2.2.2.2.1 bt361.2.2.2.2.2.2.2.2.2.2.1 bt361.2.2.2.2.2.2.2.2.2.2.2.1 bt361.2.2.2.2.2.2.2.2.2.2.2.2.1 bt361.2.2.2.2.2.2.2.2.2.2.2.2.2.1 bt361.2.2.2.2.2.2.2.2.2.2.2.2.2.2.1 bt361.2.2.2.2.2.2.2.2.2.2.2.2.2.2.2).bind fun t384 => (laws_FnRules.j0 k l0 (!t384) bt361.1 bt361.2.1 bt361.2.2.1 bt361.2.2.2.1 bt361.2.2.2.2.1 bt361.2.2.2.2.2.1 bt361.2.2.2.2.2.2.1 bt361.2.2.2.2.2.2.2.1 bt361.2.2.2.2.2.2.2.2.1 bt361.2.2.2.2.2.2.2.2.2.1 bt361.2.2.2.2.2.2.2.2.2.2.1 bt361.2.2.2.2.2.2.2.2.2.2.2.1 bt361.2.2.2.2.2.2.2.2.2.2.2.2.1 bt361.2.2.2.2.2.2.2.2.2.2.2.2.2.1 bt361.2.2.2.2.2.2.2.2.2.2.2.2.2.2.1 bt361.2.2.2.2.2.2.2.2.2.2.2.2.2.2.2)))))))) else ((impl_IsBefore.f k bt361.1 bt361.2.1 bt361.2.2.1 bt361.2.2.2.1 bt361.2.2.2.2.1 bt361.2.2.2.2.2.1 bt361.2.2.2.2.2.2.1 bt361.2.2.2.2.2.2.2.1 bt361.2.2.2.2.2.2.2.2.1 bt361.2.2.2.2.2.2.2.2.2.1 bt361.2.2.2.2.2.2.2.2.2.2.1 bt361.2.2.2.2.2.2.2.2.2.2.2.1 bt361.2.2.2.2.2.2.2.2.2.2.2.2.1 bt361.2.2.2.2.2.2.2.2.2.2.2.2.2.1 bt361.2.2.2.2.2.2.2.2.2.2.2.2.2.2.1 bt361.2.2.2.2.2.2.2.2.2.2.2.2.2.2.2).bind fun t385 => (if t385 = true then (laws_FnRules.j0 k l0 false bt361.1 bt361.2.1 bt361.2.2.1 bt361.2.2.2.1 bt361.2.2.2.2.1 bt361.2.2.2.2.2.1 bt361.2.2.2.2.2.2.1 bt361.2.2.2.2.2.2.2.1 bt361.2.2.2.2.2.2.2.2.1 bt361.2.2.2.2.2.2.2.2.2.1 bt361.2.2.2.2.2.2.2.2.2.2.1 bt361.2.2.2.2.2.2.2.2.2.2.2.1 bt361.2.2.2.2.2.2.2.2.2.2.2.2.1 bt361.2.2.2.2.2.2.2.2.2.2.2.2.2.1 bt361.2.2.2.2.2.2.2.2.2.2.2.2.2.2.1 bt361.2.2.2.2.2.2.2.2.2.2.2.2.2.2.2) else ((impl_IsBefore.f k bt361.2.2.2.2.2.2.2.2.1 bt361.2.2.2.2.2.2.2.2.2.1 bt361.2.2.2.2.2.2.2.2.2.2.1 bt361.2.2.2.2.2.2.2.2.2.2.2.1 bt361.2.2.2.2.2.2.2.2.2.2.2.2.1 bt361.2.2.2.2.2.2.2.2.2.2.2.2.2.1 bt361.2.2.2.2.2.2.2.2.2.2.2.2.2.2.1 bt361.2.2.2.2.2.2.2.2.2.2.2.2.2.2.2 bt361.1 bt361.2.1 bt361.2.2.1 bt361.2.2.2.1 bt361.2.2.2.2.1 bt361.2.2.2.2.2.1 bt361.2.2.2.2.2.2.1 bt361.2.2.2.2.2.2.2.1).bind fun t386 => (if t386 = true then (laws_FnRules.j0 k l0 false bt361.1 bt361.2.1 bt361.2.2.1 bt361.2.2.2.1 bt361.2.2.2.2.1 bt361.2.2.2.2.2.1 bt361.2.2.2.2.2.2.1 bt361.2.2.2.2.2.2.2.1 bt361.2.2.2.2.2.2.2.2.1 bt361.2.2.2.2.2.2.2.2.2.1 bt361.2.2.2.2.2.2.2.2.2.2.1 bt361.2.2.2.2.2.2.2.2.2.2.2.1 bt361.2.2.2.2.2.2.2.2.2.2.2.2.1 bt361.2.2.2.2.2.2.2.2.2.2.2.2.2.1 bt361.2.2.2.2.2.2.2.2.2.2.2.2.2.2.1 bt361.2.2.2.2.2.2.2.2.2.2.2.2.2.2.2) else ((laws_sameRule.f bt361.1 bt361.2.1 bt361.2.2.1 bt361.2.2.2.1 bt361.2.2.2.2.1 bt361.2.2.2.2.2.1 bt361.2.2.2.2.2.2.1 bt361.2.2.2.2.2.2.2.1 bt361.2.2.2.2.2.2.2.2.1 bt361.2.2.2.2.2.2.2.2.2.1 bt361.2.2.2.2.2.2.2.2.2.2.1 bt361.2.2.2.2.2.2.2.2.2.2.2.1 bt361.2.2.2.2.2.2.2.2.2.2.2.2.1 bt361.2.2.2.2.2.2.2.2.2.2.2.2.2.1 bt361.2.2.2.2.2.2.2.2.2.2.2.2.2.2.1 bt361.2.2.2.2.2.2.2.2.2.2.2.2.2.2.2).bind fun t387 => (laws_FnRules.j0 k l0 (!t387) bt361.1 bt361.2.1 bt361.2.2.1 bt361.2.2.2.1 bt361.2.2.2.2.1 bt361.2.2.2.2.2.1 bt361.2.2.2.2.2.2.1 bt361.2.2.2.2.2.2.2.1 bt361.2.2.2.2.2.2.2.2.1 bt361.2.2.2.2.2.2.2.2.2.1 bt361.2.2.2.2.2.2.2.2.2.2.1 bt361.2.2.2.2.2.2.2.2.2.2.2.1 bt361.2.2.2.2.2.2.2.2.2.2.2.2.1 bt361.2.2.2.2.2.2.2.2.2.2.2.2.2.1 bt361.2.2.2.2.2.2.2.2.2.2.2.2.2.2.1 bt361.2.2.2.2.2.2.2.2.2.2.2.2.2.2.2))))))))))))
theorem laws_FnRules.mono_l : ∀ k, (∀ y0 y1 y2 y3 y4 y5 y6 y7 y8 y9 y10 y11 y12 y13 y14 y15 y16 y17, LeO (laws_FnRules.j0 k y0 y1 y2 y3 y4 y5 y6 y7 y8 y9 y10 y11 y12 y13 y14 y15 y16 y17) (laws_FnRules.j0 (k + 1) y0 y1 y2 y3 y4 y5 y6 y7 y8 y9 y10 y11 y12 y13 y14 y15 y16 y17)) ∧ (∀ y0 y1 y2 y3 y4 y5 y6 y7 y8 y9 y10 y11 y12 y13 y14 y15 y16 y17 y18 y19 y20 y21 y22 y23 y24 y25, LeO (laws_FnRules.j1 k y0 y1 y2 y3 y4 y5 y6 y7 y8 y9 y10 y11 y12 y13 y14 y15 y16 y17 y18 y19 y20 y21 y22 y23 y24 y25) (laws_FnRules.j1 (k + 1) y0 y1 y2 y3 y4 y5 y6 y7 y8 y9 y10 y11 y12 y13 y14 y15 y16 y17 y18 y19 y20 y21 y22 y23 y24 y25)) ∧ (∀ y0 y1 y2 y3 y4 y5 y6 y7 y8 y9, LeO (laws_FnRules.j2 k y0 y1 y2 y3 y4 y5 y6 y7 y8 y9) (laws_FnRules.j2 (k + 1) y0 y1 y2 y3 y4 y5 y6 y7 y8 y9)) ∧ (∀ y0 y1 y2 y3 y4 y5 y6 y7 y8 y9 y10, LeO (laws_FnRules.l0 k y0 y1 y2 y3 y4 y5 y6 y7 y8 y9 y10) (laws_FnRules.l0 (k + 1) y0 y1 y2 y3 y4 y5 y6 y7 y8 y9 y10))
 | 0 => ⟨fun _ _ _ _ _ _ _ _ _ _ _ _ _ _ _ _ _ _ r h => by simp [laws_FnRules.j0] at h, fun _ _ _ _ _ _ _ _ _ _ _ _ _ _ _ _ _ _ _ _ _ _ _ _ _ _ r h => by simp [laws_FnRules.j1] at h, fun _ _ _ _ _ _ _ _ _ _ r h => by simp [laws_FnRules.j2] at h, fun _ _ _ _ _ _ _ _ _ _ _ r h => by simp [laws_FnRules.l0] at h⟩
 | k + 1 => by
  obtain ⟨ih0, ih1, ih2, ih3⟩ := laws_FnRules.mono_l k
  refine ⟨?_, ?_, ?_, ?_⟩
  ·intro y0 y1 y2 y3 y4 y5 y6 y7 y8 y9 y10 y11 y12 y13 y14 y15 y16 y17
   unfold laws_FnRules.j0
   repeat' first
   | (with_reducible exact ih0 _ _ _ _ _ _ _ _ _ _ _ _ _ _ _ _ _ _)
   | (with_reducible exact ih1 _ _ _ _ _ _ _ _ _ _ _ _ _ _ _ _ _ _ _ _ _ _ _ _ _ _)
   | (with_reducible exact ih2 _ _ _ _ _ _ _ _ _ _)
   | (with_reducible exact ih3 _ _ _ _ _ _ _ _ _ _ _)
   | (with_reducible exact impl_Applies.mono _ _ _ _ _ _ _ _ _ _ _ _)
   | (with_reducible exact impl_IsBefore.mono _ _ _ _ _ _ _ _ _ _ _ _ _ _ _ _ _)
   | (with_reducible exact impl_IsRule.mono _ _ _ _ _ _ _ _ _)
   | (with_reducible exact impl_RulesOf.mono _ _ _)
   | (with_reducible exact spec_DrawApplies.mono _ _)
   | (with_reducible exact spec_DrawIsBefore.mono _ _)
   | (with_reducible exact spec_DrawRulesOf.mono _ _)
   | (with_reducible exact LeO.refl _)
   | (with_reducible exact LeO.none _)
   | (with_reducible refine LeO.ite ?_ ?_)
   | (with_reducible refine LeO.bind ?_ (fun _ => ?_))
   | exact ih0 _ _ _ _ _ _ _ _ _ _ _ _ _ _ _ _ _ _
   | exact ih1 _ _ _ _ _ _ _ _ _ _ _ _ _ _ _ _ _ _ _ _ _ _ _ _ _ _
   | exact ih2 _ _ _ _ _ _ _ _ _ _
   | exact ih3 _ _ _ _ _ _ _ _ _ _ _
   | exact impl_Applies.mono _ _ _ _ _ _ _ _ _ _ _ _
   | exact impl_IsBefore.mono _ _ _ _ _ _ _ _ _ _ _ _ _ _ _ _ _
   | exact impl_IsRule.mono _ _ _ _ _ _ _ _ _
   | exact impl_RulesOf.mono _ _ _
   | exact spec_DrawApplies.mono _ _
   | exact spec_DrawIsBefore.mono _ _
   | exact spec_DrawRulesOf.mono _ _
   | exact LeO.none _
   | refine LeO.ite ?_ ?_
   | refine LeO.bind ?_ (fun _ => ?_)
  ·intro y0 y1 y2 y3 y4 y5 y6 y7 y8 y9 y10 y11 y12 y13 y14 y15 y16 y17 y18 y19 y20 y21 y22 y23 y24 y25
   unfold laws_FnRules.j1
   repeat' first
   | (with_reducible exact ih0 _ _ _ _ _ _ _ _ _ _ _ _ _ _ _ _ _ _)
   | (with_reducible exact ih1 _ _ _ _ _ _ _ _ _ _ _ _ _ _ _ _ _ _ _ _ _ _ _ _ _ _)
   | (with_reducible exact ih2 _ _ _ _ _ _ _ _ _ _)
   | (with_reducible exact ih3 _ _ _ _ _ _ _ _ _ _ _)
   | (with_reducible exact impl_Applies.mono _ _ _ _ _ _ _ _ _ _ _ _)
   | (with_reducible exact impl_IsBefore.mono _ _ _ _ _ _ _ _ _ _ _ _ _ _ _ _ _)
   | (with_reducible exact impl_IsRule.mono _ _ _ _ _ _ _ _ _)
   | (with_reducible exact impl_RulesOf.mono _ _ _)
   | (with_reducible exact spec_DrawApplies.mono _ _)
   | (with_reducible exact spec_DrawIsBefore.mono _ _)
   | (with_reducible exact spec_DrawRulesOf.mono _ _)
   | (with_reducible exact LeO.refl _)
   | (with_reducible exact LeO.none _)
   | (with_reducible refine LeO.ite ?_ ?_)
   | (with_reducible refine LeO.bind ?_ (fun _ => ?_))
   | exact ih0 _ _ _ _ _ _ _ _ _ _ _ _ _ _ _ _ _ _
   | exact ih1 _ _ _ _ _ _ _ _ _ _ _ _ _ _ _ _ _ _ _ _ _ _ _ _ _ _
   | exact ih2 _ _ _ _ _ _ _ _ _ _
   | exact ih3 _ _ _ _ _ _ _ _ _ _ _
   | exact impl_Applies.mono _ _ _ _ _ _ _ _ _ _ _ _
   | exact impl_IsBefore.mono _ _ _ _ _ _ _ _ _ _ _ _ _ _ _ _ _
   | exact impl_IsRule.mono _ _ _ _ _ _ _ _ _
   | exact impl_RulesOf.mono _ _ _
   | exact spec_DrawApplies.mono _ _
   | exact spec_DrawIsBefore.mono _ _
   | exact spec_DrawRulesOf.mono _ _
   | exact LeO.none _
   | refine LeO.ite ?_ ?_
   | refine LeO.bind ?_ (fun _ => ?_)
  ·intro y0 y1 y2 y3 y4 y5 y6 y7 y8 y9
   unfold laws_FnRules.j2
   repeat' first
   | (with_reducible exact ih0 _ _ _ _ _ _ _ _ _ _ _ _ _ _ _ _ _ _)
   | (with_reducible exact ih1 _ _ _ _ _ _ _ _ _ _ _ _ _ _ _ _ _ _ _ _ _ _ _ _ _ _)
   | (with_reducible exact ih2 _ _ _ _ _ _ _ _ _ _)
   | (with_reducible exact ih3 _ _ _ _ _ _ _ _ _ _ _)
   | (with_reducible exact impl_Applies.mono _ _ _ _ _ _ _ _ _ _ _ _)
   | (with_reducible exact impl_IsBefore.mono _ _ _ _ _ _ _ _ _ _ _ _ _ _ _ _ _)
   | (with_reducible exact impl_IsRule.mono _ _ _ _ _ _ _ _ _)
   | (with_reducible exact impl_RulesOf.mono _ _ _)
   | (with_reducible exact spec_DrawApplies.mono _ _)
   | (with_reducible exact spec_DrawIsBefore.mono _ _)
   | (with_reducible exact spec_DrawRulesOf.mono _ _)
   | (with_reducible exact LeO.refl _)
   | (with_reducible exact LeO.none _)
   | (with_reducible refine LeO.ite ?_ ?_)
   | (with_reducible refine LeO.bind ?_ (fun _ => ?_))
   | exact ih0 _ _ _ _ _ _ _ _ _ _ _ _ _ _ _ _ _ _
   | exact ih1 _ _ _ _ _ _ _ _ _ _ _ _ _ _ _ _ _ _ _ _ _ _ _ _ _ _
   | exact ih2 _ _ _ _ _ _ _ _ _ _
   | exact ih3 _ _ _ _ _ _ _ _ _ _ _
   | exact impl_Applies.mono _ _ _ _ _ _ _ _ _ _ _ _
   | exact impl_IsBefore.mono _ _ _ _ _ _ _ _ _ _ _ _ _ _ _ _ _
   | exact impl_IsRule.mono _ _ _ _ _ _ _ _ _
   | exact impl_RulesOf.mono _ _ _
   | exact spec_DrawApplies.mono _ _
   | exact spec_DrawIsBefore.mono _ _
   | exact spec_DrawRulesOf.mono _ _
   | exact LeO.none _
   | refine LeO.ite ?_ ?_
   | refine LeO.bind ?_ (fun _ => ?_)
  ·intro y0 y1 y2 y3 y4 y5 y6 y7 y8 y9 y10
   unfold laws_FnRules.l0
   repeat' first
   | (with_reducible exact ih0 _ _ _ _ _ _ _ _ _ _ _ _ _ _ _ _ _ _)
   | (with_reducible exact ih1 _ _ _ _ _ _ _ _ _ _ _ _ _ _ _ _ _ _ _ _ _ _ _ _ _ _)
   | (with_reducible exact ih2 _ _ _ _ _ _ _ _ _ _)
   | (with_reducible exact ih3 _ _ _ _ _ _ _ _ _ _ _)
   | (with_reducible exact impl_Applies.mono _ _ _ _ _ _ _ _ _ _ _ _)
   | (with_reducible exact impl_IsBefore.mono _ _ _ _ _ _ _ _ _ _ _ _ _ _ _ _ _)
   | (with_reducible exact impl_IsRule.mono _ _ _ _ _ _ _ _ _)
   | (with_reducible exact impl_RulesOf.mono _ _ _)
   | (with_reducible exact spec_DrawApplies.mono _ _)
   | (with_reducible exact spec_DrawIsBefore.mono _ _)
   | (with_reducible exact spec_DrawRulesOf.mono _ _)
   | (with_reducible exact LeO.refl _)
   | (with_reducible exact LeO.none _)
   | (with_reducible refine LeO.ite ?_ ?_)
   | (with_reducible refine LeO.bind ?_ (fun _ => ?_))
   | exact ih0 _ _ _ _ _ _ _ _ _ _ _ _ _ _ _ _ _ _
   | exact ih1 _ _ _ _ _ _ _ _ _ _ _ _ _ _ _ _ _ _ _ _ _ _ _ _ _ _
   | exact ih2 _ _ _ _ _ _ _ _ _ _
   | exact ih3 _ _ _ _ _ _ _ _ _ _ _
   | exact impl_Applies.mono _ _ _ _ _ _ _ _ _ _ _ _
   | exact impl_IsBefore.mono _ _ _ _ _ _ _ _ _ _ _ _ _ _ _ _ _
   | exact impl_IsRule.mono _ _ _ _ _ _ _ _ _
   | exact impl_RulesOf.mono _ _ _
   | exact spec_DrawApplies.mono _ _
   | exact spec_DrawIsBefore.mono _ _
   | exact spec_DrawRulesOf.mono _ _
   | exact LeO.none _
   | refine LeO.ite ?_ ?_
   | refine LeO.bind ?_ (fun _ => ?_)
theorem laws_FnRules.mono : ∀ a0 k, LeO (laws_FnRules.f k a0) (laws_FnRules.f (k + 1) a0) := by
 intro a0 k
 obtain ⟨ih0, ih1, ih2, ih3⟩ := laws_FnRules.mono_l k
 unfold laws_FnRules.f
 repeat' first
   | (with_reducible exact ih0 _ _ _ _ _ _ _ _ _ _ _ _ _ _ _ _ _ _)
   | (with_reducible exact ih1 _ _ _ _ _ _ _ _ _ _ _ _ _ _ _ _ _ _ _ _ _ _ _ _ _ _)
   | (with_reducible exact ih2 _ _ _ _ _ _ _ _ _ _)
   | (with_reducible exact ih3 _ _ _ _ _ _ _ _ _ _ _)
   | (with_reducible exact impl_Applies.mono _ _ _ _ _ _ _ _ _ _ _ _)
   | (with_reducible exact impl_IsBefore.mono _ _ _ _ _ _ _ _ _ _ _ _ _ _ _ _ _)
   | (with_reducible exact impl_IsRule.mono _ _ _ _ _ _ _ _ _)
   | (with_reducible exact impl_RulesOf.mono _ _ _)
   | (with_reducible exact spec_DrawApplies.mono _ _)
   | (with_reducible exact spec_DrawIsBefore.mono _ _)
   | (with_reducible exact spec_DrawRulesOf.mono _ _)
   | (with_reducible exact LeO.refl _)
   | (with_reducible exact LeO.none _)
   | (with_reducible refine LeO.ite ?_ ?_)
   | (with_reducible refine LeO.bind ?_ (fun _ => ?_))
   | exact ih0 _ _ _ _ _ _ _ _ _ _ _ _ _ _ _ _ _ _
   | exact ih1 _ _ _ _ _ _ _ _ _ _ _ _ _ _ _ _ _ _ _ _ _ _ _ _ _ _
   | exact ih2 _ _ _ _ _ _ _ _ _ _
   | exact ih3 _ _ _ _ _ _ _ _ _ _ _
   | exact impl_Applies.mono _ _ _ _ _ _ _ _ _ _ _ _
   | exact impl_IsBefore.mono _ _ _ _ _ _ _ _ _ _ _ _ _ _ _ _ _
   | exact impl_IsRule.mono _ _ _ _ _ _ _ _ _
   | exact impl_RulesOf.mono _ _ _
   | exact spec_DrawApplies.mono _ _
   | exact spec_DrawIsBefore.mono _ _
   | exact spec_DrawRulesOf.mono _ _
   | exact LeO.none _
   | refine LeO.ite ?_ ?_
   | refine LeO.bind ?_ (fun _ => ?_)
set_option maxHeartbeats 8000000 in
set_option maxRecDepth 100000 in
theorem laws_FnRules.calls (k : Nat) (A0 : Option Addr) (c0 : Nat) (l0 : List Int) (r : Bool) (w : World) (hr0 : Kd.C (Kd.int .u8) w A0 l0.length l0) (hc0 : l0.length ≤ c0) (h : laws_FnRules.f k l0 = some r) (hr_ : r = true) :
  Calls Try.prog 10 #[.slice A0 l0.length c0] w fun e w' => e = .returned (.bool r) ∧ Below w.heap.size w w' := by
 have HRT := Aside0.mk hr_
 clear hr_
 have hu35 := Try.underlying35
 have hu86 := Try.underlying86
 have hu32 := Try.underlying32
 have hu33 := Try.underlying33
 have HR0 := Aside0.mk hr0
 have HC0 := Aside0.mk hc0
 clear hr0 hc0
 have HB := am (Below.refl w.heap.size w)
 have H : ((laws_big.f l0).bind fun t360 => (if t360 = true then (some true) else ((spec_DrawIsBefore.f k l0).bind fun bt361 => ((impl_IsBefore.f k bt361.1 bt361.2.1 bt361.2.2.1 bt361.2.2.2.1 bt361.2.2.2.2.1 bt361.2.2.2.2.2.1 bt361.2.2.2.2.2.2.1 bt361.2.2.2.2.2.2.2.1 bt361.1 bt361.2.1 bt361.2.2.1 bt361.2.2.2.1 bt361.2.2.2.2.1 bt361.2.2.2.2.2.1 bt361.2.2.2.2.2.2.1 bt361.2.2.2.2.2.2.2.1).bind fun t379 => (if t379 = true then (laws_FnRules.j0 k l0 true bt361.1 bt361.2.1 bt361.2.2.1 bt361.2.2.2.1 bt361.2.2.2.2.1 bt361.2.2.2.2.2.1 bt361.2.2.2.2.2.2.1 bt361.2.2.2.2.2.2.2.1 bt361.2.2.2.2.2.2.2.2.1 bt361.2.2.2.2.2.2.2.2.2.1 bt361.2.2.2.2.2.2.2.2.2.2.1 bt361.2.2.2.2.2.2.2.2.2.2.2.1 bt361.2.2.2.2.2.2.2.2.2.2.2.2.1 bt361.2.2.2.2.2.2.2.2.2.2.2.2.2.1 bt361.2.2.2.2.2.2.2.2.2.2.2.2.2.2.1 bt361.2.2.2.2.2.2.2.2.2.2.2.2.2.2.2) else ((impl_IsBefore.f k bt361.1 bt361.2.1 bt361.2.2.1 bt361.2.2.2.1 bt361.2.2.2.2.1 bt361.2.2.2.2.2.1 bt361.2.2.2.2.2.2.1 bt361.2.2.2.2.2.2.2.1 bt361.2.2.2.2.2.2.2.2.1 bt361.2.2.2.2.2.2.2.2.2.1 bt361.2.2.2.2.2.2.2.2.2.2.1 bt361.2.2.2.2.2.2.2.2.2.2.2.1 bt361.2.2.2.2.2.2.2.2.2.2.2.2.1 bt361.2.2.2.2.2.2.2.2.2.2.2.2.2.1 bt361.2.2.2.2.2.2.2.2.2.2.2.2.2.2.1 bt361.2.2.2.2.2.2.2.2.2.2.2.2.2.2.2).bind fun t380 => (if t380 = true then ((impl_IsBefore.f k bt361.2.2.2.2.2.2.2.2.1 bt361.2.2.2.2.2.2.2.2.2.1 bt361.2.2.2.2.2.2.2.2.2.2.1 bt361.2.2.2.2.2.2.2.2.2.2.2.1 bt361.2.2.2.2.2.2.2.2.2.2.2.2.1 bt361.2.2.2.2.2.2.2.2.2.2.2.2.2.1 bt361.2.2.2.2.2.2.2.2.2.2.2.2.2.2.1 bt361.2.2.2.2.2.2.2.2.2.2.2.2.2.2.2 bt361.1 bt361.2.1 bt361.2.2.1 bt361.2.2.2.1 bt361.2.2.2.2.1 bt361.2.2.2.2.2.1 bt361.2.2.2.2.2.2.1 bt361.2.2.2.2.2.2.2.1).bind fun t381 => (if t381 = true then (laws_FnRules.j0 k l0 true bt361.1 bt361.2.1 bt361.2.2.1 bt361.2.2.2.1 bt361.2.2.2.2.1 bt361.2.2.2.2.2.1 bt361.2.2.2.2.2.2.1 bt361.2.2.2.2.2.2.2.1 bt361.2.2.2.2.2.2.2.2.1 bt361.2.2.2.2.2.2.2.2.2.1 bt361.2.2.2.2.2.2.2.2.2.2.1 bt361.2.2.2.2.2.2.2.2.2.2.2.1 bt361.2.2.2.2.2.2.2.2.2.2.2.2.1 bt361.2.2.2.2.2.2.2.2.2.2.2.2.2.1 bt361.2.2.2.2.2.2.2.2.2.2.2.2.2.2.1 bt361.2.2.2.2.2.2.2.2.2.2.2.2.2.2.2) else ((impl_IsBefore.f k bt361.1 bt361.2.1 bt361.2.2.1 bt361.2.2.2.1 bt361.2.2.2.2.1 bt361.2.2.2.2.2.1 bt361.2.2.2.2.2.2.1 bt361.2.2.2.2.2.2.2.1 bt361.2.2.2.2.2.2.2.2.1 bt361.2.2.2.2.2.2.2.2.2.1 bt361.2.2.2.2.2.2.2.2.2.2.1 bt361.2.2.2.2.2.2.2.2.2.2.2.1 bt361.2.2.2.2.2.2.2.2.2.2.2.2.1 bt361.2.2.2.2.2.2.2.2.2.2.2.2.2.1 bt361.2.2.2.2.2.2.2.2.2.2.2.2.2.2.1 bt361.2.2.2.2.2.2.2.2.2.2.2.2.2.2.2).bind fun t382 => (if t382 = true then (laws_FnRules.j0 k l0 false bt361.1 bt361.2.1 bt361.2.2.1 bt361.2.2.2.1 bt361.2.2.2.2.1 bt361.2.2.2.2.2.1 bt361.2.2.2.2.2.2.1 bt361.2.2.2.2.2.2.2.1 bt361.2.2.2.2.2.2.2.2.1 bt361.2.2.2.2.2.2.2.2.2.1 bt361.2.2.2.2.2.2.2.2.2.2.1 bt361.2.2.2.2.2.2.2.2.2.2.2.1 bt361.2.2.2.2.2.2.2.2.2.2.2.2.1 bt361.2.2.2.2.2.2.2.2.2.2.2.2.2.1 bt361.2.2.2.2.2.2.2.2.2.2.2.2.2.2.1 bt361.2.2.2.2.2.2.2.2.2.2.2.2.2.2.2) else ((impl_IsBefore.f k bt361.2.2.2.2.2.2.2.2.1 bt361.2.2.2.2.2.2.2.2.2.1 bt361.2.2.2.2.2.2.2.2.2.2.1 bt361.2.2.2.2.2.2.2.2.2.2.2.1 bt361.2.2.2.2.2.2.2.2.2.2.2.2.1 bt361.2.2.2.2.2.2.2.2.2.2.2.2.2.1 bt361.2.2.2.2.2.2.2.2.2.2.2.2.2.2.1 bt361.2.2.2.2.2.2.2.2.2.2.2.2.2.2.2 bt361.1 bt361.2.1 bt361.2.2.1 bt361.2.2.2.1 bt361.2.2.2.2.1 bt361.2.2.2.2.2.1 bt361.2.2.2.2.2.2.1 bt361.2.2.2.2.2.2.2.1).bind fun t383 => (if t383 = true then (laws_FnRules.j0 k l0 false bt361.1 bt361.2.1 bt361.2.2.1 bt361.2.2.2.1 bt361.2.2.2.2.1 bt361.2.2.2.2.2.1 bt361.2.2.2.2.2.2.1 bt361.2.2.2.2.2.2.2.1 bt361.2.2.2.2.2.2.2.2.1 bt361.2.2.2.2.2.2.2.2.2.1 bt361.2.2.2.2.2.2.2.2.2.2.1 bt361.2.2.2.2.2.2.2.2.2.2.2.1 bt361.2.2.2.2.2.2.2.2.2.2.2.2.1 bt361.2.2.2.2.2.2.2.2.2.2.2.2.2.1 bt361.2.2.2.2.2.2.2.2.2.2.2.2.2.2.1 bt361.2.2.2.2.2.2.2.2.2.2.2.2.2.2.2) else ((laws_sameRule.f bt361.1 bt361.2.1 bt361.2.2.1 bt361.2.2.2.1 bt361.2.2.2.2.1 bt361.2.2.2.2.2.1 bt361.2.2.2.2.2.2.1 bt361.2.2.2.2.2.2.2.1 bt361.2.2.2.2.2.2.2.2.1 bt361.2.2.2.2.2.2.2.2.2.1 bt361.2.2.2.2.2.2.2.2.2.2.1 bt361.2.2.2.2.2.2.2.2.2.2.2.1 bt361.2.2.2.2.2.2.2.2.2.2.2.2.1 bt361.2.2.2.2.2.2.2.2.2.2.2.2.2.1 bt361.2.2.2.2.2.2.2.2.2.2.2.2.2.2.1 bt361.2.2.2.2.2.2.2.2.2.2.2.2.2.2.2).bind fun t384 => (laws_FnRules.j0 k l0 (!t384) bt361.1 bt361.2.1 bt361.2.2.1 bt361.2.2.2.1 bt361.2.2.2.2.1 bt361.2.2.2.2.2.1 bt361.2.2.2.2.2.2.1 bt361.2.2.2.2.2.2.2.1 bt361.2.2.2.2.2.2.2.2.1 bt361.2.2.2.2.2.2.2.2.2.1 bt361.2.2.2.2.2.2.2.2.2.2.1 bt361.2.2.2.2.2.2.2.2.2.2.2.1 bt361.2.2.2.2.2.2.2.2.2.2.2.2.1 bt361.2.2.2.2.2.2.2.2.2.2.2.2.2.1 bt361.2.2.2.2.2.2.2.2.2.2.2.2.2.2.1 bt361.2.2.2.2.2.2.2.2.2.2.2.2.2.2.2)))))))) else ((impl_IsBefore.f k bt361.1 bt361.2.1 bt361.2.2.1 bt361.2.2.2.1 bt361.2.2.2.2.1 bt361.2.2.2.2.2.1 bt361.2.2.2.2.2.2.1 bt361.2.2.2.2.2.2.2.1 bt361.2.2.2.2.2.2.2.2.1 bt361.2.2.2.2.2.2.2.2.2.1 bt361.2.2.2.2.2.2.2.2.2.2.1 bt361.2.2.2.2.2.2.2.2.2.2.2.1 bt361.2.2.2.2.2.2.2.2.2.2.2.2.1 bt361.2.2.2.2.2.2.2.2.2.2.2.2.2.1 bt361.2.2.2.2.2.2.2.2.2.2.2.2.2.2.1 bt361.2.2.2.2.2.2.2.2.2.2.2.2.2.2.2).bind fun t385 => (if t385 = true then (laws_FnRules.j0 k l0 false bt361.1 bt361.2.1 bt361.2.2.1 bt361.2.2.2.1 bt361.2.2.2.2.1 bt361.2.2.2.2.2.1 bt361.2.2.2.2.2.2.1 bt361.2.2.2.2.2.2.2.1 bt361.2.2.2.2.2.2.2.2.1 bt361.2.2.2.2.2.2.2.2.2.1 bt361.2.2.2.2.2.2.2.2.2.2.1 bt361.2.2.2.2.2.2.2.2.2.2.2.1 bt361.2.2.2.2.2.2.2.2.2.2.2.2.1 bt361.2.2.2.2.2.2.2.2.2.2.2.2.2.1 bt361.2.2.2.2.2.2.2.2.2.2.2.2.2.2.1 bt361.2.2.2.2.2.2.2.2.2.2.2.2.2.2.2) else ((impl_IsBefore.f k bt361.2.2.2.2.2.2.2.2.1 bt361.2.2.2.2.2.2.2.2.2.1 bt361.2.2.2.2.2.2.2.2.2.2.1 bt361.2.2.2.2.2.2.2.2.2.2.2.1 bt361.2.2.2.2.2.2.2.2.2.2.2.2.1 bt361.2.2.2.2.2.2.2.2.2.2.2.2.2.1 bt361.2.2.2.2.2.2.2.2.2.2.2.2.2.2.1 bt361.2.2.2.2.2.2.2.2.2.2.2.2.2.2.2 bt361.1 bt361.2.1 bt361.2.2.1 bt361.2.2.2.1 bt361.2.2.2.2.1 bt361.2.2.2.2.2.1 bt361.2.2.2.2.2.2.1 bt361.2.2.2.2.2.2.2.1).bind fun t386 => (if t386 = true then (laws_FnRules.j0 k l0 false bt361.1 bt361.2.1 bt361.2.2.1 bt361.2.2.2.1 bt361.2.2.2.2.1 bt361.2.2.2.2.2.1 bt361.2.2.2.2.2.2.1 bt361.2.2.2.2.2.2.2.1 bt361.2.2.2.2.2.2.2.2.1 bt361.2.2.2.2.2.2.2.2.2.1 bt361.2.2.2.2.2.2.2.2.2.2.1 bt361.2.2.2.2.2.2.2.2.2.2.2.1 bt361.2.2.2.2.2.2.2.2.2.2.2.2.1 bt361.2.2.2.2.2.2.2.2.2.2.2.2.2.1 bt361.2.2.2.2.2.2.2.2.2.2.2.2.2.2.1 bt361.2.2.2.2.2.2.2.2.2.2.2.2.2.2.2) else ((laws_sameRule.f bt361.1 bt361.2.1 bt361.2.2.1 bt361.2.2.2.1 bt361.2.2.2.2.1 bt361.2.2.2.2.2.1 bt361.2.2.2.2.2.2.1 bt361.2.2.2.2.2.2.2.1 bt361.2.2.2.2.2.2.2.2.1 bt361.2.2.2.2.2.2.2.2.2.1 bt361.2.2.2.2.2.2.2.2.2.2.1 bt361.2.2.2.2.2.2.2.2.2.2.2.1 bt361.2.2.2.2.2.2.2.2.2.2.2.2.1 bt361.2.2.2.2.2.2.2.2.2.2.2.2.2.1 bt361.2.2.2.2.2.2.2.2.2.2.2.2.2.2.1 bt361.2.2.2.2.2.2.2.2.2.2.2.2.2.2.2).bind fun t387 => (laws_FnRules.j0 k l0 (!t387) bt361.1 bt361.2.1 bt361.2.2.1 bt361.2.2.2.1 bt361.2.2.2.2.1 bt361.2.2.2.2.2.1 bt361.2.2.2.2.2.2.1 bt361.2.2.2.2.2.2.2.1 bt361.2.2.2.2.2.2.2.2.1 bt361.2.2.2.2.2.2.2.2.2.1 bt361.2.2.2.2.2.2.2.2.2.2.1 bt361.2.2.2.2.2.2.2.2.2.2.2.1 bt361.2.2.2.2.2.2.2.2.2.2.2.2.1 bt361.2.2.2.2.2.2.2.2.2.2.2.2.2.1 bt361.2.2.2.2.2.2.2.2.2.2.2.2.2.2.1 bt361.2.2.2.2.2.2.2.2.2.2.2.2.2.2.2))))))))))))) = some r := h
 clear h
 replace H := Option.bind_eq_some_iff.mp H
 obtain ⟨t360, A20, H⟩ := H
 replace H : (if t360 = true then (some true) else ((spec_DrawIsBefore.f k l0).bind fun bt361 => ((impl_IsBefore.f k bt361.1 bt361.2.1 bt361.2.2.1 bt361.2.2.2.1 bt361.2.2.2.2.1 bt361.2.2.2.2.2.1 bt361.2.2.2.2.2.2.1 bt361.2.2.2.2.2.2.2.1 bt361.1 bt361.2.1 bt361.2.2.1 bt361.2.2.2.1 bt361.2.2.2.2.1 bt361.2.2.2.2.2.1 bt361.2.2.2.2.2.2.1 bt361.2.2.2.2.2.2.2.1).bind fun t379 => (if t379 = true then (laws_FnRules.j0 k l0 true bt361.1 bt361.2.1 bt361.2.2.1 bt361.2.2.2.1 bt361.2.2.2.2.1 bt361.2.2.2.2.2.1 bt361.2.2.2.2.2.2.1 bt361.2.2.2.2.2.2.2.1 bt361.2.2.2.2.2.2.2.2.1 bt361.2.2.2.2.2.2.2.2.2.1 bt361.2.2.2.2.2.2.2.2.2.2.1 bt361.2.2.2.2.2.2.2.2.2.2.2.1 bt361.2.2.2.2.2.2.2.2.2.2.2.2.1 bt361.2.2.2.2.2.2.2.2.2.2.2.2.2.1 bt361.2.2.2.2.2.2.2.2.2.2.2.2.2.2.1 bt361.2.2.2.2.2.2.2.2.2.2.2.2.2.2.2) else ((impl_IsBefore.f k bt361.1 bt361.2.1 bt361.2.2.1 bt361.2.2.2.1 bt361.2.2.2.2.1 bt361.2.2.2.2.2.1 bt361.2.2.2.2.2.2.1 bt361.2.2.2.2.2.2.2.1 bt361.2.2.2.2.2.2.2.2.1 bt361.2.2.2.2.2.2.2.2.2.1 bt361.2.2.2.2.2.2.2.2.2.2.1 bt361.2.2.2.2.2.2.2.2.2.2.2.1 bt361.2.2.2.2.2.2.2.2.2.2.2.2.1 bt361.2.2.2.2.2.2.2.2.2.2.2.2.2.1 bt361.2.2.2.2.2.2.2.2.2.2.2.2.2.2.1 bt361.2.2.2.2.2.2.2.2.2.2.2.2.2.2.2).bind fun t380 => (if t380 = true then ((impl_IsBefore.f k bt361.2.2.2.2.2.2.2.2.1 bt361.2.2.2.2.2.2.2.2.2.1 bt361.2.2.2.2.2.2.2.2.2.2.1 bt361.2.2.2.2.2.2.2.2.2.2.2.1 bt361.2.2.2.2.2.2.2.2.2.2.2.2.1 bt361.2.2.2.2.2.2.2.2.2.2.2.2.2.1 bt361.2.2.2.2.2.2.2.2.2.2.2.2.2.2.1 bt361.2.2.2.2.2.2.2.2.2.2.2.2.2.2.2 bt361.1 bt361.2.1 bt361.2.2.1 bt361.2.2.2.1 bt361.2.2.2.2.1 bt361.2.2.2.2.2.1 bt361.2.2.2.2.2.2.1 bt361.2.2.2.2.2.2.2.1).bind fun t381 => (if t381 = true then (laws_FnRules.j0 k l0 true bt361.1 bt361.2.1 bt361.2.2.1 bt361.2.2.2.1 bt361.2.2.2.2.1 bt361.2.2.2.2.2.1 bt361.2.2.2.2.2.2.1 bt361.2.2.2.2.2.2.2.1 bt361.2.2.2.2.2.2.2.2.1 bt361.2.2.2.2.2.2.2.2.2.1 bt361.2.2.2.2.2.2.2.2.2.2.1 bt361.2.2.2.2.2.2.2.2.2.2.2.1 bt361.2.2.2.2.2.2.2.2.2.2.2.2.1 bt361.2.2.2.2.2.2.2.2.2.2.2.2.2.1 bt361.2.2.2.2.2.2.2.2.2.2.2.2.2.2.1 bt361.2.2.2.2.2.2.2.2.2.2.2.2.2.2.2) else ((impl_IsBefore.f k bt361.1 bt361.2.1 bt361.2.2.1 bt361.2.2.2.1 bt361.2.2.2.2.1 bt361.2.2.2.2.2.1 bt361.2.2.2.2.2.2.1 bt361.2.2.2.2.2.2.2.1 bt361.2.2.2.2.2.2.2.2.1 bt361.2.2.2.2.2.2.2.2.2.1 bt361.2.2.2.2.2.2.2.2.2.2.1 bt361.2.2.2.2.2.2.2.2.2.2.2.1 bt361.2.2.2.2.2.2.2.2.2.2.2.2.1 bt361.2.2.2.2.2.2.2.2.2.2.2.2.2.1 bt361.2.2.2.2.2.2.2.2.2.2.2.2.2.2.1 bt361.2.2.2.2.2.2.2.2.2.2.2.2.2.2.2).bind fun t382 => (if t382 = true then (laws_FnRules.j0 k l0 false bt361.1 bt361.2.1 bt361.2.2.1 bt361.2.2.2.1 bt361.2.2.2.2.1 bt361.2.2.2.2.2.1 bt361.2.2.2.2.2.2.1 bt361.2.2.2.2.2.2.2.1 bt361.2.2.2.2.2.2.2.2.1 bt361.2.2.2.2.2.2.2.2.2.1 bt361.2.2.2.2.2.2.2.2.2.2.1 bt361.2.2.2.2.2.2.2.2.2.2.2.1 bt361.2.2.2.2.2.2.2.2.2.2.2.2.1 bt361.2.2.2.2.2.2.2.2.2.2.2.2.2.1 bt361.2.2.2.2.2.2.2.2.2.2.2.2.2.2.1 bt361.2.2.2.2.2.2.2.2.2.2.2.2.2.2.2) else ((impl_IsBefore.f k bt361.2.2.2.2.2.2.2.2.1 bt361.2.2.2.2.2.2.2.2.2.1 bt361.2.2.2.2.2.2.2.2.2.2.1 bt361.2.2.2.2.2.2.2.2.2.2.2.1 bt361.2.2.2.2.2.2.2.2.2.2.2.2.1 bt361.2.2.2.2.2.2.2.2.2.2.2.2.2.1 bt361.2.2.2.2.2.2.2.2.2.2.2.2.2.2.1 bt361.2.2.2.2.2.2.2.2.2.2.2.2.2.2.2 bt361.1 bt361.2.1 bt361.2.2.1 bt361.2.2.2.1 bt361.2.2.2.2.1 bt361.2.2.2.2.2.1 bt361.2.2.2.2.2.2.1 bt361.2.2.2.2.2.2.2.1).bind fun t383 => (if t383 = true then (laws_FnRules.j0 k l0 false bt361.1 bt361.2.1 bt361.2.2.1 bt361.2.2.2.1 bt361.2.2.2.2.1 bt361.2.2.2.2.2.1 bt361.2.2.2.2.2.2.1 bt361.2.2.2.2.2.2.2.1 bt361.2.2.2.2.2.2.2.2.1 bt361.2.2.2.2.2.2.2.2.2.1 bt361.2.2.2.2.2.2.2.2.2.2.1 bt361.2.2.2.2.2.2.2.2.2.2.2.1 bt361.2.2.2.2.2.2.2.2.2.2.2.2.1 bt361.2.2.2.2.2.2.2.2.2.2.2.2.2.1 bt361.2.2.2.2.2.2.2.2.2.2.2.2.2.2.1 bt361.2.2.2.2.2.2.2.2.2.2.2.2.2.2.2) else ((laws_sameRule.f bt361.1 bt361.2.1 bt361.2.2.1 bt361.2.2.2.1 bt361.2.2.2.2.1 bt361.2.2.2.2.2.1 bt361.2.2.2.2.2.2.1 bt361.2.2.2.2.2.2.2.1 bt361.2.2.2.2.2.2.2.2.1 bt361.2.2.2.2.2.2.2.2.2.1 bt361.2.2.2.2.2.2.2.2.2.2.1 bt361.2.2.2.2.2.2.2.2.2.2.2.1 bt361.2.2.2.2.2.2.2.2.2.2.2.2.1 bt361.2.2.2.2.2.2.2.2.2.2.2.2.2.1 bt361.2.2.2.2.2.2.2.2.2.2.2.2.2.2.1 bt361.2.2.2.2.2.2.2.2.2.2.2.2.2.2.2).bind fun t384 => (laws_FnRules.j0 k l0 (!t384) bt361.1 bt361.2.1 bt361.2.2.1 bt361.2.2.2.1 bt361.2.2.2.2.1 bt361.2.2.2.2.2.1 bt361.2.2.2.2.2.2.1 bt361.2.2.2.2.2.2.2.1 bt361.2.2.2.2.2.2.2.2.1 bt361.2.2.2.2.2.2.2.2.2.1 bt361.2.2.2.2.2.2.2.2.2.2.1 bt361.2.2.2.2.2.2.2.2.2.2.2.1 bt361.2.2.2.2.2.2.2.2.2.2.2.2.1 bt361.2.2.2.2.2.2.2.2.2.2.2.2.2.1 bt361.2.2.2.2.2.2.2.2.2.2.2.2.2.2.1 bt361.2.2.2.2.2.2.2.2.2.2.2.2.2.2.2)))))))) else ((impl_IsBefore.f k bt361.1 bt361.2.1 bt361.2.2.1 bt361.2.2.2.1 bt361.2.2.2.2.1 bt361.2.2.2.2.2.1 bt361.2.2.2.2.2.2.1 bt361.2.2.2.2.2.2.2.1 bt361.2.2.2.2.2.2.2.2.1 bt361.2.2.2.2.2.2.2.2.2.1 bt361.2.2.2.2.2.2.2.2.2.2.1 bt361.2.2.2.2.2.2.2.2.2.2.2.1 bt361.2.2.2.2.2.2.2.2.2.2.2.2.1 bt361.2.2.2.2.2.2.2.2.2.2.2.2.2.1 bt361.2.2.2.2.2.2.2.2.2.2.2.2.2.2.1 bt361.2.2.2.2.2.2.2.2.2.2.2.2.2.2.2).bind fun t385 => (if t385 = true then (laws_FnRules.j0 k l0 false bt361.1 bt361.2.1 bt361.2.2.1 bt361.2.2.2.1 bt361.2.2.2.2.1 bt361.2.2.2.2.2.1 bt361.2.2.2.2.2.2.1 bt361.2.2.2.2.2.2.2.1 bt361.2.2.2.2.2.2.2.2.1 bt361.2.2.2.2.2.2.2.2.2.1 bt361.2.2.2.2.2.2.2.2.2.2.1 bt361.2.2.2.2.2.2.2.2.2.2.2.1 bt361.2.2.2.2.2.2.2.2.2.2.2.2.1 bt361.2.2.2.2.2.2.2.2.2.2.2.2.2.1 bt361.2.2.2.2.2.2.2.2.2.2.2.2.2.2.1 bt361.2.2.2.2.2.2.2.2.2.2.2.2.2.2.2) else ((impl_IsBefore.f k bt361.2.2.2.2.2.2.2.2.1 bt361.2.2.2.2.2.2.2.2.2.1 bt361.2.2.2.2.2.2.2.2.2.2.1 bt361.2.2.2.2.2.2.2.2.2.2.2.1 bt361.2.2.2.2.2.2.2.2.2.2.2.2.1 bt361.2.2.2.2.2.2.2.2.2.2.2.2.2.1 bt361.2.2.2.2.2.2.2.2.2.2.2.2.2.2.1 bt361.2.2.2.2.2.2.2.2.2.2.2.2.2.2.2 bt361.1 bt361.2.1 bt361.2.2.1 bt361.2.2.2.1 bt361.2.2.2.2.1 bt361.2.2.2.2.2.1 bt361.2.2.2.2.2.2.1 bt361.2.2.2.2.2.2.2.1).bind fun t386 => (if t386 = true then (laws_FnRules.j0 k l0 false bt361.1 bt361.2.1 bt361.2.2.1 bt361.2.2.2.1 bt361.2.2.2.2.1 bt361.2.2.2.2.2.1 bt361.2.2.2.2.2.2.1 bt361.2.2.2.2.2.2.2.1 bt361.2.2.2.2.2.2.2.2.1 bt361.2.2.2.2.2.2.2.2.2.1 bt361.2.2.2.2.2.2.2.2.2.2.1 bt361.2.2.2.2.2.2.2.2.2.2.2.1 bt361.2.2.2.2.2.2.2.2.2.2.2.2.1 bt361.2.2.2.2.2.2.2.2.2.2.2.2.2.1 bt361.2.2.2.2.2.2.2.2.2.2.2.2.2.2.1 bt361.2.2.2.2.2.2.2.2.2.2.2.2.2.2.2) else ((laws_sameRule.f bt361.1 bt361.2.1 bt361.2.2.1 bt361.2.2.2.1 bt361.2.2.2.2.1 bt361.2.2.2.2.2.1 bt361.2.2.2.2.2.2.1 bt361.2.2.2.2.2.2.2.1 bt361.2.2.2.2.2.2.2.2.1 bt361.2.2.2.2.2.2.2.2.2.1 bt361.2.2.2.2.2.2.2.2.2.2.1 bt361.2.2.2.2.2.2.2.2.2.2.2.1 bt361.2.2.2.2.2.2.2.2.2.2.2.2.1 bt361.2.2.2.2.2.2.2.2.2.2.2.2.2.1 bt361.2.2.2.2.2.2.2.2.2.2.2.2.2.2.1 bt361.2.2.2.2.2.2.2.2.2.2.2.2.2.2.2).bind fun t387 => (laws_FnRules.j0 k l0 (!t387) bt361.1 bt361.2.1 bt361.2.2.1 bt361.2.2.2.1 bt361.2.2.2.2.1 bt361.2.2.2.2.2.1 bt361.2.2.2.2.2.2.1 bt361.2.2.2.2.2.2.2.1 bt361.2.2.2.2.2.2.2.2.1 bt361.2.2.2.2.2.2.2.2.2.1 bt361.2.2.2.2.2.2.2.2.2.2.1 bt361.2.2.2.2.2.2.2.2.2.2.2.1 bt361.2.2.2.2.2.2.2.2.2.2.2.2.1 bt361.2.2.2.2.2.2.2.2.2.2.2.2.2.1 bt361.2.2.2.2.2.2.2.2.2.2.2.2.2.2.1 bt361.2.2.2.2.2.2.2.2.2.2.2.2.2.2.2)))))))))))) = some r := H
 have A2 := Aside0.mk A20
 clear A20
 by_cases c3 : t360 = true
 ·subst c3
  have H1 : (some true) = some r := by rw [if_pos rfl] at H; exact H
  clear H
  have H := H1
  clear H1
  obtain rfl := Option.some.inj H
  go_enter Try.func10, Try.ntmps10
  go_wp2_with (first | ((with_reducible refine gate_callee (f := 36) rfl ?_); refine goesL_ (some 12) rfl rfl Try.func36 (by kernel_rfl) rfl #[.slice A0 l0.length c0] rfl (by (try simp only [List.map_toArray, List.map_cons, List.map_nil]); first | done | rfl | (simp only [List.length_drop, List.length_take]; rfl)) ?_; (with_reducible refine (laws_big.calls _ _ l0 true _ ?side1 ?side2 A2.out).mono ?_); (case side1 => exact cB (HR0.out)); (case side2 => exact HC0.out); rintro e w' ⟨rfl, ⟨nd, rfl⟩⟩; refine ⟨_, rfl, ?_⟩))
  go_ret
  exact ⟨by first | rfl | (simp [errW_none, errW_some] <;> rfl) | (simp [*, errW_none, errW_some] <;> rfl), sB HB.out⟩
 ·replace c3 := Bool.eq_false_iff.mpr c3
  subst c3
  have H1 : ((spec_DrawIsBefore.f k l0).bind fun bt361 => ((impl_IsBefore.f k bt361.1 bt361.2.1 bt361.2.2.1 bt361.2.2.2.1 bt361.2.2.2.2.1 bt361.2.2.2.2.2.1 bt361.2.2.2.2.2.2.1 bt361.2.2.2.2.2.2.2.1 bt361.1 bt361.2.1 bt361.2.2.1 bt361.2.2.2.1 bt361.2.2.2.2.1 bt361.2.2.2.2.2.1 bt361.2.2.2.2.2.2.1 bt361.2.2.2.2.2.2.2.1).bind fun t379 => (if t379 = true then (laws_FnRules.j0 k l0 true bt361.1 bt361.2.1 bt361.2.2.1 bt361.2.2.2.1 bt361.2.2.2.2.1 bt361.2.2.2.2.2.1 bt361.2.2.2.2.2.2.1 bt361.2.2.2.2.2.2.2.1 bt361.2.2.2.2.2.2.2.2.1 bt361.2.2.2.2.2.2.2.2.2.1 bt361.2.2.2.2.2.2.2.2.2.2.1 bt361.2.2.2.2.2.2.2.2.2.2.2.1 bt361.2.2.2.2.2.2.2.2.2.2.2.2.1 bt361.2.2.2.2.2.2.2.2.2.2.2.2.2.1 bt361.2.2.2.2.2.2.2.2.2.2.2.2.2.2.1 bt361.2.2.2.2.2.2.2.2.2.2.2.2.2.2.2) else ((impl_IsBefore.f k bt361.1 bt361.2.1 bt361.2.2.1 bt361.2.2.2.1 bt361.2.2.2.2.1 bt361.2.2.2.2.2.1 bt361.2.2.2.2.2.2.1 bt361.2.2.2.2.2.2.2.1 bt361.2.2.2.2.2.2.2.2.1 bt361.2.2.2.2.2.2.2.2.2.1 bt361.2.2.2.2.2.2.2.2.2.2.1 bt361.2.2.2.2.2.2.2.2.2.2.2.1 bt361.2.2.2.2.2.2.2.2.2.2.2.2.1 bt361.2.2.2.2.2.2.2.2.2.2.2.2.2.1 bt361.2.2.2.2.2.2.2.2.2.2.2.2.2.2.1 bt361.2.2.2.2.2.2.2.2.2.2.2.2.2.2.2).bind fun t380 => (if t380 = true then ((impl_IsBefore.f k bt361.2.2.2.2.2.2.2.2.1 bt361.2.2.2.2.2.2.2.2.2.1 bt361.2.2.2.2.2.2.2.2.2.2.1 bt361.2.2.2.2.2.2.2.2.2.2.2.1 bt361.2.2.2.2.2.2.2.2.2.2.2.2.1 bt361.2.2.2.2.2.2.2.2.2.2.2.2.2.1 bt361.2.2.2.2.2.2.2.2.2.2.2.2.2.2.1 bt361.2.2.2.2.2.2.2.2.2.2.2.2.2.2.2 bt361.1 bt361.2.1 bt361.2.2.1 bt361.2.2.2.1 bt361.2.2.2.2.1 bt361.2.2.2.2.2.1 bt361.2.2.2.2.2.2.1 bt361.2.2.2.2.2.2.2.1).bind fun t381 => (if t381 = true then (laws_FnRules.j0 k l0 true bt361.1 bt361.2.1 bt361.2.2.1 bt361.2.2.2.1 bt361.2.2.2.2.1 bt361.2.2.2.2.2.1 bt361.2.2.2.2.2.2.1 bt361.2.2.2.2.2.2.2.1 bt361.2.2.2.2.2.2.2.2.1 bt361.2.2.2.2.2.2.2.2.2.1 bt361.2.2.2.2.2.2.2.2.2.2.1 bt361.2.2.2.2.2.2.2.2.2.2.2.1 bt361.2.2.2.2.2.2.2.2.2.2.2.2.1 bt361.2.2.2.2.2.2.2.2.2.2.2.2.2.1 bt361.2.2.2.2.2.2.2.2.2.2.2.2.2.2.1 bt361.2.2.2.2.2.2.2.2.2.2.2.2.2.2.2) else ((impl_IsBefore.f k bt361.1 bt361.2.1 bt361.2.2.1 bt361.2.2.2.1 bt361.2.2.2.2.1 bt361.2.2.2.2.2.1 bt361.2.2.2.2.2.2.1 bt361.2.2.2.2.2.2.2.1 bt361.2.2.2.2.2.2.2.2.1 bt361.2.2.2.2.2.2.2.2.2.1 bt361.2.2.2.2.2.2.2.2.2.2.1 bt361.2.2.2.2.2.2.2.2.2.2.2.1 bt361.2.2.2.2.2.2.2.2.2.2.2.2.1 bt361.2.2.2.2.2.2.2.2.2.2.2.2.2.1 bt361.2.2.2.2.2.2.2.2.2.2.2.2.2.2.1 bt361.2.2.2.2.2.2.2.2.2.2.2.2.2.2.2).bind fun t382 => (if t382 = true then (laws_FnRules.j0 k l0 false bt361.1 bt361.2.1 bt361.2.2.1 bt361.2.2.2.1 bt361.2.2.2.2.1 bt361.2.2.2.2.2.1 bt361.2.2.2.2.2.2.1 bt361.2.2.2.2.2.2.2.1 bt361.2.2.2.2.2.2.2.2.1 bt361.2.2.2.2.2.2.2.2.2.1 bt361.2.2.2.2.2.2.2.2.2.2.1 bt361.2.2.2.2.2.2.2.2.2.2.2.1 bt361.2.2.2.2.2.2.2.2.2.2.2.2.1 bt361.2.2.2.2.2.2.2.2.2.2.2.2.2.1 bt361.2.2.2.2.2.2.2.2.2.2.2.2.2.2.1 bt361.2.2.2.2.2.2.2.2.2.2.2.2.2.2.2) else ((impl_IsBefore.f k bt361.2.2.2.2.2.2.2.2.1 bt361.2.2.2.2.2.2.2.2.2.1 bt361.2.2.2.2.2.2.2.2.2.2.1 bt361.2.2.2.2.2.2.2.2.2.2.2.1 bt361.2.2.2.2.2.2.2.2.2.2.2.2.1 bt361.2.2.2.2.2.2.2.2.2.2.2.2.2.1 bt361.2.2.2.2.2.2.2.2.2.2.2.2.2.2.1 bt361.2.2.2.2.2.2.2.2.2.2.2.2.2.2.2 bt361.1 bt361.2.1 bt361.2.2.1 bt361.2.2.2.1 bt361.2.2.2.2.1 bt361.2.2.2.2.2.1 bt361.2.2.2.2.2.2.1 bt361.2.2.2.2.2.2.2.1).bind fun t383 => (if t383 = true then (laws_FnRules.j0 k l0 false bt361.1 bt361.2.1 bt361.2.2.1 bt361.2.2.2.1 bt361.2.2.2.2.1 bt361.2.2.2.2.2.1 bt361.2.2.2.2.2.2.1 bt361.2.2.2.2.2.2.2.1 bt361.2.2.2.2.2.2.2.2.1 bt361.2.2.2.2.2.2.2.2.2.1 bt361.2.2.2.2.2.2.2.2.2.2.1 bt361.2.2.2.2.2.2.2.2.2.2.2.1 bt361.2.2.2.2.2.2.2.2.2.2.2.2.1 bt361.2.2.2.2.2.2.2.2.2.2.2.2.2.1 bt361.2.2.2.2.2.2.2.2.2.2.2.2.2.2.1 bt361.2.2.2.2.2.2.2.2.2.2.2.2.2.2.2) else ((laws_sameRule.f bt361.1 bt361.2.1 bt361.2.2.1 bt361.2.2.2.1 bt361.2.2.2.2.1 bt361.2.2.2.2.2.1 bt361.2.2.2.2.2.2.1 bt361.2.2.2.2.2.2.2.1 bt361.2.2.2.2.2.2.2.2.1 bt361.2.2.2.2.2.2.2.2.2.1 bt361.2.2.2.2.2.2.2.2.2.2.1 bt361.2.2.2.2.2.2.2.2.2.2.2.1 bt361.2.2.2.2.2.2.2.2.2.2.2.2.1 bt361.2.2.2.2.2.2.2.2.2.2.2.2.2.1 bt361.2.2.2.2.2.2.2.2.2.2.2.2.2.2.1 bt361.2.2.2.2.2.2.2.2.2.2.2.2.2.2.2).bind fun t384 => (laws_FnRules.j0 k l0 (!t384) bt361.1 bt361.2.1 bt361.2.2.1 bt361.2.2.2.1 bt361.2.2.2.2.1 bt361.2.2.2.2.2.1 bt361.2.2.2.2.2.2.1 bt361.2.2.2.2.2.2.2.1 bt361.2.2.2.2.2.2.2.2.1 bt361.2.2.2.2.2.2.2.2.2.1 bt361.2.2.2.2.2.2.2.2.2.2.1 bt361.2.2.2.2.2.2.2.2.2.2.2.1 bt361.2.2.2.2.2.2.2.2.2.2.2.2.1 bt361.2.2.2.2.2.2.2.2.2.2.2.2.2.1 bt361.2.2.2.2.2.2.2.2.2.2.2.2.2.2.1 bt361.2.2.2.2.2.2.2.2.2.2.2.2.2.2.2)))))))) else ((impl_IsBefore.f k bt361.1 bt361.2.1 bt361.2.2.1 bt361.2.2.2.1 bt361.2.2.2.2.1 bt361.2.2.2.2.2.1 bt361.2.2.2.2.2.2.1 bt361.2.2.2.2.2.2.2.1 bt361.2.2.2.2.2.2.2.2.1 bt361.2.2.2.2.2.2.2.2.2.1 bt361.2.2.2.2.2.2.2.2.2.2.1 bt361.2.2.2.2.2.2.2.2.2.2.2.1 bt361.2.2.2.2.2.2.2.2.2.2.2.2.1 bt361.2.2.2.2.2.2.2.2.2.2.2.2.2.1 bt361.2.2.2.2.2.2.2.2.2.2.2.2.2.2.1 bt361.2.2.2.2.2.2.2.2.2.2.2.2.2.2.2).bind fun t385 => (if t385 = true then (laws_FnRules.j0 k l0 false bt361.1 bt361.2.1 bt361.2.2.1 bt361.2.2.2.1 bt361.2.2.2.2.1 bt361.2.2.2.2.2.1 bt361.2.2.2.2.2.2.1 bt361.2.2.2.2.2.2.2.1 bt361.2.2.2.2.2.2.2.2.1 bt361.2.2.2.2.2.2.2.2.2.1 bt361.2.2.2.2.2.2.2.2.2.2.1 bt361.2.2.2.2.2.2.2.2.2.2.2.1 bt361.2.2.2.2.2.2.2.2.2.2.2.2.1 bt361.2.2.2.2.2.2.2.2.2.2.2.2.2.1 bt361.2.2.2.2.2.2.2.2.2.2.2.2.2.2.1 bt361.2.2.2.2.2.2.2.2.2.2.2.2.2.2.2) else ((impl_IsBefore.f k bt361.2.2.2.2.2.2.2.2.1 bt361.2.2.2.2.2.2.2.2.2.1 bt361.2.2.2.2.2.2.2.2.2.2.1 bt361.2.2.2.2.2.2.2.2.2.2.2.1 bt361.2.2.2.2.2.2.2.2.2.2.2.2.1 bt361.2.2.2.2.2.2.2.2.2.2.2.2.2.1 bt361.2.2.2.2.2.2.2.2.2.2.2.2.2.2.1 bt361.2.2.2.2.2.2.2.2.2.2.2.2.2.2.2 bt361.1 bt361.2.1 bt361.2.2.1 bt361.2.2.2.1 bt361.2.2.2.2.1 bt361.2.2.2.2.2.1 bt361.2.2.2.2.2.2.1 bt361.2.2.2.2.2.2.2.1).bind fun t386 => (if t386 = true then (laws_FnRules.j0 k l0 false bt361.1 bt361.2.1 bt361.2.2.1 bt361.2.2.2.1 bt361.2.2.2.2.1 bt361.2.2.2.2.2.1 bt361.2.2.2.2.2.2.1 bt361.2.2.2.2.2.2.2.1 bt361.2.2.2.2.2.2.2.2.1 bt361.2.2.2.2.2.2.2.2.2.1 bt361.2.2.2.2.2.2.2.2.2.2.1 bt361.2.2.2.2.2.2.2.2.2.2.2.1 bt361.2.2.2.2.2.2.2.2.2.2.2.2.1 bt361.2.2.2.2.2.2.2.2.2.2.2.2.2.1 bt361.2.2.2.2.2.2.2.2.2.2.2.2.2.2.1 bt361.2.2.2.2.2.2.2.2.2.2.2.2.2.2.2) else ((laws_sameRule.f bt361.1 bt361.2.1 bt361.2.2.1 bt361.2.2.2.1 bt361.2.2.2.2.1 bt361.2.2.2.2.2.1 bt361.2.2.2.2.2.2.1 bt361.2.2.2.2.2.2.2.1 bt361.2.2.2.2.2.2.2.2.1 bt361.2.2.2.2.2.2.2.2.2.1 bt361.2.2.2.2.2.2.2.2.2.2.1 bt361.2.2.2.2.2.2.2.2.2.2.2.1 bt361.2.2.2.2.2.2.2.2.2.2.2.2.1 bt361.2.2.2.2.2.2.2.2.2.2.2.2.2.1 bt361.2.2.2.2.2.2.2.2.2.2.2.2.2.2.1 bt361.2.2.2.2.2.2.2.2.2.2.2.2.2.2.2).bind fun t387 => (laws_FnRules.j0 k l0 (!t387) bt361.1 bt361.2.1 bt361.2.2.1 bt361.2.2.2.1 bt361.2.2.2.2.1 bt361.2.2.2.2.2.1 bt361.2.2.2.2.2.2.1 bt361.2.2.2.2.2.2.2.1 bt361.2.2.2.2.2.2.2.2.1 bt361.2.2.2.2.2.2.2.2.2.1 bt361.2.2.2.2.2.2.2.2.2.2.1 bt361.2.2.2.2.2.2.2.2.2.2.2.1 bt361.2.2.2.2.2.2.2.2.2.2.2.2.1 bt361.2.2.2.2.2.2.2.2.2.2.2.2.2.1 bt361.2.2.2.2.2.2.2.2.2.2.2.2.2.2.1 bt361.2.2.2.2.2.2.2.2.2.2.2.2.2.2.2))))))))))) = some r := by rw [if_neg (show ¬ (false = true) by decide)] at H; exact H
  clear H
  have H := H1
  clear H1
  replace H := Option.bind_eq_some_iff.mp H
  obtain ⟨⟨t361, t362, t363, t364, t365, t366, t367, t368, t369, t370, t371, t372, t373, t374, t375, t376⟩, A40, H⟩ := H
  replace H : ((impl_IsBefore.f k t361 t362 t363 t364 t365 t366 t367 t368 t361 t362 t363 t364 t365 t366 t367 t368).bind fun t379 => (if t379 = true then (laws_FnRules.j0 k l0 true t361 t362 t363 t364 t365 t366 t367 t368 t369 t370 t371 t372 t373 t374 t375 t376) else ((impl_IsBefore.f k t361 t362 t363 t364 t365 t366 t367 t368 t369 t370 t371 t372 t373 t374 t375 t376).bind fun t380 => (if t380 = true then ((impl_IsBefore.f k t369 t370 t371 t372 t373 t374 t375 t376 t361 t362 t363 t364 t365 t366 t367 t368).bind fun t381 => (if t381 = true then (laws_FnRules.j0 k l0 true t361 t362 t363 t364 t365 t366 t367 t368 t369 t370 t371 t372 t373 t374 t375 t376) else ((impl_IsBefore.f k t361 t362 t363 t364 t365 t366 t367 t368 t369 t370 t371 t372 t373 t374 t375 t376).bind fun t382 => (if t382 = true then (laws_FnRules.j0 k l0 false t361 t362 t363 t364 t365 t366 t367 t368 t369 t370 t371 t372 t373 t374 t375 t376) else ((impl_IsBefore.f k t369 t370 t371 t372 t373 t374 t375 t376 t361 t362 t363 t364 t365 t366 t367 t368).bind fun t383 => (if t383 = true then (laws_FnRules.j0 k l0 false t361 t362 t363 t364 t365 t366 t367 t368 t369 t370 t371 t372 t373 t374 t375 t376) else ((laws_sameRule.f t361 t362 t363 t364 t365 t366 t367 t368 t369 t370 t371 t372 t373 t374 t375 t376).bind fun t384 => (laws_FnRules.j0 k l0 (!t384) t361 t362 t363 t364 t365 t366 t367 t368 t369 t370 t371 t372 t373 t374 t375 t376)))))))) else ((impl_IsBefore.f k t361 t362 t363 t364 t365 t366 t367 t368 t369 t370 t371 t372 t373 t374 t375 t376).bind fun t385 => (if t385 = true then (laws_FnRules.j0 k l0 false t361 t362 t363 t364 t365 t366 t367 t368 t369 t370 t371 t372 t373 t374 t375 t376) else ((impl_IsBefore.f k t369 t370 t371 t372 t373 t374 t375 t376 t361 t362 t363 t364 t365 t366 t367 t368).bind fun t386 => (if t386 = true then (laws_FnRules.j0 k l0 false t361 t362 t363 t364 t365 t366 t367 t368 t369 t370 t371 t372 t373 t374 t375 t376) else ((laws_sameRule.f t361 t362 t363 t364 t365 t366 t367 t368 t369 t370 t371 t372 t373 t374 t375 t376).bind fun t387 => (laws_FnRules.j0 k l0 (!t387) t361 t362 t363 t364 t365 t366 t367 t368 t369 t370 t371 t372 t373 t374 t375 t376)))))))))) = some r := H
  have A4 := Aside0.mk A40
  clear A40
  have HC5 := Aside0.mk H
  clear H
  go_enter Try.func10, Try.ntmps10
  go_upto_region 4 with (first | ((with_reducible refine gate_callee (f := 36) rfl ?_); refine goesL_ (some 12) rfl rfl Try.func36 (by kernel_rfl) rfl #[.slice A0 l0.length c0] rfl (by (try simp only [List.map_toArray, List.map_cons, List.map_nil]); first | done | rfl | (simp only [List.length_drop, List.length_take]; rfl)) ?_; (with_reducible refine (laws_big.calls _ _ l0 false _ ?side1 ?side2 A2.out).mono ?_); (case side1 => exact cB (HR0.out)); (case side2 => exact HC0.out); rintro e w' ⟨rfl, ⟨nd, rfl⟩⟩; refine ⟨_, rfl, ?_⟩) | ((with_reducible refine gate_callee (f := 57) rfl ?_); refine goesL_ (some 15) rfl rfl Try.func57 (by kernel_rfl) rfl #[.slice A0 l0.length c0] rfl (by (try simp only [List.map_toArray, List.map_cons, List.map_nil]); first | done | rfl | (simp only [List.length_drop, List.length_take]; rfl)) ?_; (with_reducible refine (spec_DrawIsBefore.calls k _ _ l0 t361 t362 t363 t364 t365 t366 t367 t368 t369 t370 t371 t372 t373 t374 t375 t376 _ ?side1 ?side2 A4.out).mono ?_); (case side1 => exact cB (HR0.out)); (case side2 => exact HC0.out); rintro e w6 ⟨rfl, hb⟩; refine ⟨_, rfl, ?_⟩; replace HB := am (below_step (sB HB.out) hb); (try clear hb); (try clear hb2); (try clear hk); (try clear hi)) | ((with_reducible refine gate_dst (N := 3) rfl ?_); refine box_event ?hg (N := 3) ?hd (cs := #[.int .i64 0, .int .i64 0, .int .i64 0, .int .i64 0, .int .i64 0, .int .i64 0, .int .i64 0, .int .i64 0]) (t := 35) ?hr ?_; (case hd => rfl); (case hg => rfl); (case hr => first | (go_simp; done) | (go_simp; rfl)); intro gb377 hg w7 hbox hb; have q_ := hbx_ (sB HB.out) hg hb; have n0_ := q_.1; have n1_ := am (hbox); have n2_ := q_.2; have n3_ := n2_; clear HB; have HB := n0_; have BK377 := n1_; have GW377 := n2_; have GE377 := n3_; clear n0_ n1_ n2_ n3_ hb hbox hg) | ((with_reducible refine gate_dst (N := 4) rfl ?_); refine box_event ?hg (N := 4) ?hd (cs := #[.int .i64 0, .int .i64 0, .int .i64 0, .int .i64 0, .int .i64 0, .int .i64 0, .int .i64 0, .int .i64 0]) (t := 35) ?hr ?_; (case hd => rfl); (case hg => rfl); (case hr => first | (go_simp; done) | (go_simp; rfl)); intro gb378 hg w8 hbox hb; have n0_ := am (blk_below (bB BK377.out) hb); have q_ := hbx_ (sB HB.out) hg hb; have n1_ := q_.1; have n2_ := am (hbox); have n3_ := q_.2; have n4_ := n3_; have n5_ := am ((by rw [hg]; exact Nat.ne_of_lt (blk_lt (g := gb377) (o := .cells #[.int .i64 0, .int .i64 0, .int .i64 0, .int .i64 0, .int .i64 0, .int .i64 0, .int .i64 0, .int .i64 0] 35 (0, 0)) (bB BK377.out)) : gb377 ≠ gb378)); have n6_ := am ((by rw [hg]; exact Nat.ne_of_gt (blk_lt (g := gb377) (o := .cells #[.int .i64 0, .int .i64 0, .int .i64 0, .int .i64 0, .int .i64 0, .int .i64 0, .int .i64 0, .int .i64 0] 35 (0, 0)) (bB BK377.out)) : gb378 ≠ gb377)); clear BK377; clear HB; have BK377 := n0_; have HB := n1_; have BK378 := n2_; have GW378 := n3_; have GE378 := n4_; have NB377_378 := n5_; have NB378_377 := n6_; clear n0_ n1_ n2_ n3_ n4_ n5_ n6_; clear hb hbox hg; have hnb9 := NB377_378.out; have hnc9 := NB378_377.out; obtain ⟨hcz10_0, hcz10_1, hcz10_2, hcz10_3, hcz10_4, hcz10_5, hcz10_6, hcz10_7, hfz10_0, hfz10_1, hfz10_2, hfz10_3, hfz10_4, hfz10_5, hfz10_6, hfz10_7⟩ := blk8 BK377.out; obtain ⟨hcz11_0, hcz11_1, hcz11_2, hcz11_3, hcz11_4, hcz11_5, hcz11_6, hcz11_7, hfz11_0, hfz11_1, hfz11_2, hfz11_3, hfz11_4, hfz11_5, hfz11_6, hfz11_7⟩ := blk8 BK378.out))
  (try simp only [Act.put, List.setIfInBounds_toArray, List.set_cons_zero, List.set_cons_succ])
  go_cut [48] (fun v48 wc => ∃ (kq : Nat) (x48_4 : Bool), v48 = .bool x48_4 ∧ Aside0 (laws_FnRules.j0 kq l0 x48_4 t361 t362 t363 t364 t365 t366 t367 t368 t369 t370 t371 t372 t373 t374 t375 t376 = some r) ∧ Aside0 (kq ≤ k) ∧ Aside0 (wc.heap[gb377]? = some (.cells #[.int .i64 t361, .int .i64 t362, .int .i64 t363, .int .i64 t364, .int .i64 t365, .int .i64 t366, .int .i64 t367, .int .i64 t368] 35 (0, 0))) ∧ Aside0 (wc.heap[gb378]? = some (.cells #[.int .i64 t369, .int .i64 t370, .int .i64 t371, .int .i64 t372, .int .i64 t373, .int .i64 t374, .int .i64 t375, .int .i64 t376] 35 (0, 0))) ∧ Aside0 (Below w.heap.size w wc))
  case first =>
   have H := HC5.out
   clear HC5
   replace H := Option.bind_eq_some_iff.mp H
   obtain ⟨t379, A120, H⟩ := H
   replace H : (if t379 = true then (laws_FnRules.j0 k l0 true t361 t362 t363 t364 t365 t366 t367 t368 t369 t370 t371 t372 t373 t374 t375 t376) else ((impl_IsBefore.f k t361 t362 t363 t364 t365 t366 t367 t368 t369 t370 t371 t372 t373 t374 t375 t376).bind fun t380 => (if t380 = true then ((impl_IsBefore.f k t369 t370 t371 t372 t373 t374 t375 t376 t361 t362 t363 t364 t365 t366 t367 t368).bind fun t381 => (if t381 = true then (laws_FnRules.j0 k l0 true t361 t362 t363 t364 t365 t366 t367 t368 t369 t370 t371 t372 t373 t374 t375 t376) else ((impl_IsBefore.f k t361 t362 t363 t364 t365 t366 t367 t368 t369 t370 t371 t372 t373 t374 t375 t376).bind fun t382 => (if t382 = true then (laws_FnRules.j0 k l0 false t361 t362 t363 t364 t365 t366 t367 t368 t369 t370 t371 t372 t373 t374 t375 t376) else ((impl_IsBefore.f k t369 t370 t371 t372 t373 t374 t375 t376 t361 t362 t363 t364 t365 t366 t367 t368).bind fun t383 => (if t383 = true then (laws_FnRules.j0 k l0 false t361 t362 t363 t364 t365 t366 t367 t368 t369 t370 t371 t372 t373 t374 t375 t376) else ((laws_sameRule.f t361 t362 t363 t364 t365 t366 t367 t368 t369 t370 t371 t372 t373 t374 t375 t376).bind fun t384 => (laws_FnRules.j0 k l0 (!t384) t361 t362 t363 t364 t365 t366 t367 t368 t369 t370 t371 t372 t373 t374 t375 t376)))))))) else ((impl_IsBefore.f k t361 t362 t363 t364 t365 t366 t367 t368 t369 t370 t371 t372 t373 t374 t375 t376).bind fun t385 => (if t385 = true then (laws_FnRules.j0 k l0 false t361 t362 t363 t364 t365 t366 t367 t368 t369 t370 t371 t372 t373 t374 t375 t376) else ((impl_IsBefore.f k t369 t370 t371 t372 t373 t374 t375 t376 t361 t362 t363 t364 t365 t366 t367 t368).bind fun t386 => (if t386 = true then (laws_FnRules.j0 k l0 false t361 t362 t363 t364 t365 t366 t367 t368 t369 t370 t371 t372 t373 t374 t375 t376) else ((laws_sameRule.f t361 t362 t363 t364 t365 t366 t367 t368 t369 t370 t371 t372 t373 t374 t375 t376).bind fun t387 => (laws_FnRules.j0 k l0 (!t387) t361 t362 t363 t364 t365 t366 t367 t368 t369 t370 t371 t372 t373 t374 t375 t376))))))))) = some r := H
   have A12 := Aside0.mk A120
   clear A120
   by_cases c13 : t379 = true
   ·subst c13
    have H1 : (laws_FnRules.j0 k l0 true t361 t362 t363 t364 t365 t366 t367 t368 t369 t370 t371 t372 t373 t374 t375 t376) = some r := by rw [if_pos rfl] at H; exact H
    clear H
    have H := H1
    clear H1
    have H' := Aside0.mk H
    clear H
    have hnb14 := NB377_378.out
    have hnc14 := NB378_377.out
    have hcz15_0 : w8.cell? ⟨gb377, 0, none⟩ = some (.int .i64 0) := (blk_cell BK377.out 0).trans rfl
    have hcz15_1 : w8.cell? ⟨gb377, 1, none⟩ = some (.int .i64 0) := (blk_cell BK377.out 1).trans rfl
    have hcz15_2 : w8.cell? ⟨gb377, 2, none⟩ = some (.int .i64 0) := (blk_cell BK377.out 2).trans rfl
    have hcz15_3 : w8.cell? ⟨gb377, 3, none⟩ = some (.int .i64 0) := (blk_cell BK377.out 3).trans rfl
    have hcz15_4 : w8.cell? ⟨gb377, 4, none⟩ = some (.int .i64 0) := (blk_cell BK377.out 4).trans rfl
    have hcz15_5 : w8.cell? ⟨gb377, 5, none⟩ = some (.int .i64 0) := (blk_cell BK377.out 5).trans rfl
    have hcz15_6 : w8.cell? ⟨gb377, 6, none⟩ = some (.int .i64 0) := (blk_cell BK377.out 6).trans rfl
    have hcz15_7 : w8.cell? ⟨gb377, 7, none⟩ = some (.int .i64 0) := (blk_cell BK377.out 7).trans rfl
    have hfz15_0 := blk_frozen BK377.out 0
    have hfz15_1 := blk_frozen BK377.out 1
    have hfz15_2 := blk_frozen BK377.out 2
    have hfz15_3 := blk_frozen BK377.out 3
    have hfz15_4 := blk_frozen BK377.out 4
    have hfz15_5 := blk_frozen BK377.out 5
    have hfz15_6 := blk_frozen BK377.out 6
    have hfz15_7 := blk_frozen BK377.out 7
    go_wp2_with (first | ((with_reducible refine gate_callee (f := 58) rfl ?_); refine goesL_ (some 20) rfl rfl Try.func58 (by kernel_rfl) rfl #[.agg #[.int .i64 t361, .int .i64 t362, .int .i64 t363, .int .i64 t364, .int .i64 t365, .int .i64 t366, .int .i64 t367, .int .i64 t368], .agg #[.int .i64 t361, .int .i64 t362, .int .i64 t363, .int .i64 t364, .int .i64 t365, .int .i64 t366, .int .i64 t367, .int .i64 t368]] rfl (by (try simp only [List.map_toArray, List.map_cons, List.map_nil]); first | done | rfl | (simp only [List.length_drop, List.length_take]; rfl)) ?_; (with_reducible refine (impl_IsBefore.calls k t361 t362 t363 t364 t365 t366 t367 t368 t361 t362 t363 t364 t365 t366 t367 t368 true _ A12.out).mono ?_); rintro e w16 ⟨rfl, hb⟩; refine ⟨_, rfl, ?_⟩; replace BK377 := am (blk_below (g := gb377) (o := .cells #[.int .i64 t361, .int .i64 t362, .int .i64 t363, .int .i64 t364, .int .i64 t365, .int .i64 t366, .int .i64 t367, .int .i64 t368] 35 (0, 0)) (by refine bB ?_; refine blk_far ?_ NB377_378.out _; refine bB ?_; refine blk_far ?_ NB377_378.out _; refine bB ?_; refine blk_far ?_ NB377_378.out _; refine bB ?_; refine blk_far ?_ NB377_378.out _; refine bB ?_; refine blk_far ?_ NB377_378.out _; refine bB ?_; refine blk_far ?_ NB377_378.out _; refine bB ?_; refine blk_far ?_ NB377_378.out _; refine bB ?_; refine blk_far ?_ NB377_378.out _; refine bB ?_; refine blk_put (cs := #[.int .i64 t361, .int .i64 t362, .int .i64 t363, .int .i64 t364, .int .i64 t365, .int .i64 t366, .int .i64 t367, .int .i64 0]) ?_ 7 _ rfl; refine bB ?_; refine blk_put (cs := #[.int .i64 t361, .int .i64 t362, .int .i64 t363, .int .i64 t364, .int .i64 t365, .int .i64 t366, .int .i64 0, .int .i64 0]) ?_ 6 _ rfl; refine bB ?_; refine blk_put (cs := #[.int .i64 t361, .int .i64 t362, .int .i64 t363, .int .i64 t364, .int .i64 t365, .int .i64 0, .int .i64 0, .int .i64 0]) ?_ 5 _ rfl; refine bB ?_; refine blk_put (cs := #[.int .i64 t361, .int .i64 t362, .int .i64 t363, .int .i64 t364, .int .i64 0, .int .i64 0, .int .i64 0, .int .i64 0]) ?_ 4 _ rfl; refine bB ?_; refine blk_put (cs := #[.int .i64 t361, .int .i64 t362, .int .i64 t363, .int .i64 0, .int .i64 0, .int .i64 0, .int .i64 0, .int .i64 0]) ?_ 3 _ rfl; refine bB ?_; refine blk_put (cs := #[.int .i64 t361, .int .i64 t362, .int .i64 0, .int .i64 0, .int .i64 0, .int .i64 0, .int .i64 0, .int .i64 0]) ?_ 2 _ rfl; refine bB ?_; refine blk_put (cs := #[.int .i64 t361, .int .i64 0, .int .i64 0, .int .i64 0, .int .i64 0, .int .i64 0, .int .i64 0, .int .i64 0]) ?_ 1 _ rfl; refine bB ?_; refine blk_put (cs := #[.int .i64 0, .int .i64 0, .int .i64 0, .int .i64 0, .int .i64 0, .int .i64 0, .int .i64 0, .int .i64 0]) ?_ 0 _ rfl; refine bB ?_; exact BK377.out) hb); replace BK378 := am (blk_below (g := gb378) (o := .cells #[.int .i64 t369, .int .i64 t370, .int .i64 t371, .int .i64 t372, .int .i64 t373, .int .i64 t374, .int .i64 t375, .int .i64 t376] 35 (0, 0)) (by refine bB ?_; refine blk_put (cs := #[.int .i64 t369, .int .i64 t370, .int .i64 t371, .int .i64 t372, .int .i64 t373, .int .i64 t374, .int .i64 t375, .int .i64 0]) ?_ 7 _ rfl; refine bB ?_; refine blk_put (cs := #[.int .i64 t369, .int .i64 t370, .int .i64 t371, .int .i64 t372, .int .i64 t373, .int .i64 t374, .int .i64 0, .int .i64 0]) ?_ 6 _ rfl; refine bB ?_; refine blk_put (cs := #[.int .i64 t369, .int .i64 t370, .int .i64 t371, .int .i64 t372, .int .i64 t373, .int .i64 0, .int .i64 0, .int .i64 0]) ?_ 5 _ rfl; refine bB ?_; refine blk_put (cs := #[.int .i64 t369, .int .i64 t370, .int .i64 t371, .int .i64 t372, .int .i64 0, .int .i64 0, .int .i64 0, .int .i64 0]) ?_ 4 _ rfl; refine bB ?_; refine blk_put (cs := #[.int .i64 t369, .int .i64 t370, .int .i64 t371, .int .i64 0, .int .i64 0, .int .i64 0, .int .i64 0, .int .i64 0]) ?_ 3 _ rfl; refine bB ?_; refine blk_put (cs := #[.int .i64 t369, .int .i64 t370, .int .i64 0, .int .i64 0, .int .i64 0, .int .i64 0, .int .i64 0, .int .i64 0]) ?_ 2 _ rfl; refine bB ?_; refine blk_put (cs := #[.int .i64 t369, .int .i64 0, .int .i64 0, .int .i64 0, .int .i64 0, .int .i64 0, .int .i64 0, .int .i64 0]) ?_ 1 _ rfl; refine bB ?_; refine blk_put (cs := #[.int .i64 0, .int .i64 0, .int .i64 0, .int .i64 0, .int .i64 0, .int .i64 0, .int .i64 0, .int .i64 0]) ?_ 0 _ rfl; refine bB ?_; refine blk_far ?_ NB378_377.out _; refine bB ?_; refine blk_far ?_ NB378_377.out _; refine bB ?_; refine blk_far ?_ NB378_377.out _; refine bB ?_; refine blk_far ?_ NB378_377.out _; refine bB ?_; refine blk_far ?_ NB378_377.out _; refine bB ?_; refine blk_far ?_ NB378_377.out _; refine bB ?_; refine blk_far ?_ NB378_377.out _; refine bB ?_; refine blk_far ?_ NB378_377.out _; refine bB ?_; exact BK378.out) hb); replace HB := am (below_step (sB HB.out) hb); (try clear hb); (try clear hb2); (try clear hk); (try clear hi)))
    go_meet
    case rel => exact ⟨_, (true), (by first | rfl | (simp; done) | (simp [*]; done)), H', ⟨by first | omega | exact Nat.le_refl _⟩, ⟨bB BK377.out⟩, ⟨bB BK378.out⟩, ⟨sB HB.out⟩⟩
   ·replace c13 := Bool.eq_false_iff.mpr c13
    subst c13
    have H1 : ((impl_IsBefore.f k t361 t362 t363 t364 t365 t366 t367 t368 t369 t370 t371 t372 t373 t374 t375 t376).bind fun t380 => (if t380 = true then ((impl_IsBefore.f k t369 t370 t371 t372 t373 t374 t375 t376 t361 t362 t363 t364 t365 t366 t367 t368).bind fun t381 => (if t381 = true then (laws_FnRules.j0 k l0 true t361 t362 t363 t364 t365 t366 t367 t368 t369 t370 t371 t372 t373 t374 t375 t376) else ((impl_IsBefore.f k t361 t362 t363 t364 t365 t366 t367 t368 t369 t370 t371 t372 t373 t374 t375 t376).bind fun t382 => (if t382 = true then (laws_FnRules.j0 k l0 false t361 t362 t363 t364 t365 t366 t367 t368 t369 t370 t371 t372 t373 t374 t375 t376) else ((impl_IsBefore.f k t369 t370 t371 t372 t373 t374 t375 t376 t361 t362 t363 t364 t365 t366 t367 t368).bind fun t383 => (if t383 = true then (laws_FnRules.j0 k l0 false t361 t362 t363 t364 t365 t366 t367 t368 t369 t370 t371 t372 t373 t374 t375 t376) else ((laws_sameRule.f t361 t362 t363 t364 t365 t366 t367 t368 t369 t370 t371 t372 t373 t374 t375 t376).bind fun t384 => (laws_FnRules.j0 k l0 (!t384) t361 t362 t363 t364 t365 t366 t367 t368 t369 t370 t371 t372 t373 t374 t375 t376)))))))) else ((impl_IsBefore.f k t361 t362 t363 t364 t365 t366 t367 t368 t369 t370 t371 t372 t373 t374 t375 t376).bind fun t385 => (if t385 = true then (laws_FnRules.j0 k l0 false t361 t362 t363 t364 t365 t366 t367 t368 t369 t370 t371 t372 t373 t374 t375 t376) else ((impl_IsBefore.f k t369 t370 t371 t372 t373 t374 t375 t376 t361 t362 t363 t364 t365 t366 t367 t368).bind fun t386 => (if t386 = true then (laws_FnRules.j0 k l0 false t361 t362 t363 t364 t365 t366 t367 t368 t369 t370 t371 t372 t373 t374 t375 t376) else ((laws_sameRule.f t361 t362 t363 t364 t365 t366 t367 t368 t369 t370 t371 t372 t373 t374 t375 t376).bind fun t387 => (laws_FnRules.j0 k l0 (!t387) t361 t362 t363 t364 t365 t366 t367 t368 t369 t370 t371 t372 t373 t374 t375 t376)))))))) = some r := by rw [if_neg (show ¬ (false = true) by decide)] at H; exact H
    clear H
    have H := H1
    clear H1
    replace H := Option.bind_eq_some_iff.mp H
    obtain ⟨t380, A170, H⟩ := H
    replace H : (if t380 = true then ((impl_IsBefore.f k t369 t370 t371 t372 t373 t374 t375 t376 t361 t362 t363 t364 t365 t366 t367 t368).bind fun t381 => (if t381 = true then (laws_FnRules.j0 k l0 true t361 t362 t363 t364 t365 t366 t367 t368 t369 t370 t371 t372 t373 t374 t375 t376) else ((impl_IsBefore.f k t361 t362 t363 t364 t365 t366 t367 t368 t369 t370 t371 t372 t373 t374 t375 t376).bind fun t382 => (if t382 = true then (laws_FnRules.j0 k l0 false t361 t362 t363 t364 t365 t366 t367 t368 t369 t370 t371 t372 t373 t374 t375 t376) else ((impl_IsBefore.f k t369 t370 t371 t372 t373 t374 t375 t376 t361 t362 t363 t364 t365 t366 t367 t368).bind fun t383 => (if t383 = true then (laws_FnRules.j0 k l0 false t361 t362 t363 t364 t365 t366 t367 t368 t369 t370 t371 t372 t373 t374 t375 t376) else ((laws_sameRule.f t361 t362 t363 t364 t365 t366 t367 t368 t369 t370 t371 t372 t373 t374 t375 t376).bind fun t384 => (laws_FnRules.j0 k l0 (!t384) t361 t362 t363 t364 t365 t366 t367 t368 t369 t370 t371 t372 t373 t374 t375 t376)))))))) else ((impl_IsBefore.f k t361 t362 t363 t364 t365 t366 t367 t368 t369 t370 t371 t372 t373 t374 t375 t376).bind fun t385 => (if t385 = true then (laws_FnRules.j0 k l0 false t361 t362 t363 t364 t365 t366 t367 t368 t369 t370 t371 t372 t373 t374 t375 t376) else ((impl_IsBefore.f k t369 t370 t371 t372 t373 t374 t375 t376 t361 t362 t363 t364 t365 t366 t367 t368).bind fun t386 => (if t386 = true then (laws_FnRules.j0 k l0 false t361 t362 t363 t364 t365 t366 t367 t368 t369 t370 t371 t372 t373 t374 t375 t376) else ((laws_sameRule.f t361 t362 t363 t364 t365 t366 t367 t368 t369 t370 t371 t372 t373 t374 t375 t376).bind fun t387 => (laws_FnRules.j0 k l0 (!t387) t361 t362 t363 t364 t365 t366 t367 t368 t369 t370 t371 t372 t373 t374 t375 t376))))))) = some r := H
    have A17 := Aside0.mk A170
    clear A170
    by_cases c18 : t380 = true
    ·subst c18
     have H1 : ((impl_IsBefore.f k t369 t370 t371 t372 t373 t374 t375 t376 t361 t362 t363 t364 t365 t366 t367 t368).bind fun t381 => (if t381 = true then (laws_FnRules.j0 k l0 true t361 t362 t363 t364 t365 t366 t367 t368 t369 t370 t371 t372 t373 t374 t375 t376) else ((impl_IsBefore.f k t361 t362 t363 t364 t365 t366 t367 t368 t369 t370 t371 t372 t373 t374 t375 t376).bind fun t382 => (if t382 = true then (laws_FnRules.j0 k l0 false t361 t362 t363 t364 t365 t366 t367 t368 t369 t370 t371 t372 t373 t374 t375 t376) else ((impl_IsBefore.f k t369 t370 t371 t372 t373 t374 t375 t376 t361 t362 t363 t364 t365 t366 t367 t368).bind fun t383 => (if t383 = true then (laws_FnRules.j0 k l0 false t361 t362 t363 t364 t365 t366 t367 t368 t369 t370 t371 t372 t373 t374 t375 t376) else ((laws_sameRule.f t361 t362 t363 t364 t365 t366 t367 t368 t369 t370 t371 t372 t373 t374 t375 t376).bind fun t384 => (laws_FnRules.j0 k l0 (!t384) t361 t362 t363 t364 t365 t366 t367 t368 t369 t370 t371 t372 t373 t374 t375 t376)))))))) = some r := by rw [if_pos rfl] at H; exact H
     clear H
     have H := H1
     clear H1
     replace H := Option.bind_eq_some_iff.mp H
     obtain ⟨t381, A190, H⟩ := H
     replace H : (if t381 = true then (laws_FnRules.j0 k l0 true t361 t362 t363 t364 t365 t366 t367 t368 t369 t370 t371 t372 t373 t374 t375 t376) else ((impl_IsBefore.f k t361 t362 t363 t364 t365 t366 t367 t368 t369 t370 t371 t372 t373 t374 t375 t376).bind fun t382 => (if t382 = true then (laws_FnRules.j0 k l0 false t361 t362 t363 t364 t365 t366 t367 t368 t369 t370 t371 t372 t373 t374 t375 t376) else ((impl_IsBefore.f k t369 t370 t371 t372 t373 t374 t375 t376 t361 t362 t363 t364 t365 t366 t367 t368).bind fun t383 => (if t383 = true then (laws_FnRules.j0 k l0 false t361 t362 t363 t364 t365 t366 t367 t368 t369 t370 t371 t372 t373 t374 t375 t376) else ((laws_sameRule.f t361 t362 t363 t364 t365 t366 t367 t368 t369 t370 t371 t372 t373 t374 t375 t376).bind fun t384 => (laws_FnRules.j0 k l0 (!t384) t361 t362 t363 t364 t365 t366 t367 t368 t369 t370 t371 t372 t373 t374 t375 t376))))))) = some r := H
     have A19 := Aside0.mk A190
     clear A190
     by_cases c20 : t381 = true
     ·subst c20
      have H1 : (laws_FnRules.j0 k l0 true t361 t362 t363 t364 t365 t366 t367 t368 t369 t370 t371 t372 t373 t374 t375 t376) = some r := by rw [if_pos rfl] at H; exact H
      clear H
      have H := H1
      clear H1
      have H' := Aside0.mk H
      clear H
      have hnb21 := NB377_378.out
      have hnc21 := NB378_377.out
      have hcz22_0 : w8.cell? ⟨gb377, 0, none⟩ = some (.int .i64 0) := (blk_cell BK377.out 0).trans rfl
      have hcz22_1 : w8.cell? ⟨gb377, 1, none⟩ = some (.int .i64 0) := (blk_cell BK377.out 1).trans rfl
      have hcz22_2 : w8.cell? ⟨gb377, 2, none⟩ = some (.int .i64 0) := (blk_cell BK377.out 2).trans rfl
      have hcz22_3 : w8.cell? ⟨gb377, 3, none⟩ = some (.int .i64 0) := (blk_cell BK377.out 3).trans rfl
      have hcz22_4 : w8.cell? ⟨gb377, 4, none⟩ = some (.int .i64 0) := (blk_cell BK377.out 4).trans rfl
      have hcz22_5 : w8.cell? ⟨gb377, 5, none⟩ = some (.int .i64 0) := (blk_cell BK377.out 5).trans rfl
      have hcz22_6 : w8.cell? ⟨gb377, 6, none⟩ = some (.int .i64 0) := (blk_cell BK377.out 6).trans rfl
      have hcz22_7 : w8.cell? ⟨gb377, 7, none⟩ = some (.int .i64 0) := (blk_cell BK377.out 7).trans rfl
      have hfz22_0 := blk_frozen BK377.out 0
      have hfz22_1 := blk_frozen BK377.out 1
      have hfz22_2 := blk_frozen BK377.out 2
      have hfz22_3 := blk_frozen BK377.out 3
      have hfz22_4 := blk_frozen BK377.out 4
      have hfz22_5 := blk_frozen BK377.out 5
      have hfz22_6 := blk_frozen BK377.out 6
      have hfz22_7 := blk_frozen BK377.out 7
      go_wp2_with (first | ((with_reducible refine gate_callee (f := 58) rfl ?_); refine goesL_ (some 20) rfl rfl Try.func58 (by kernel_rfl) rfl #[.agg #[.int .i64 t361, .int .i64 t362, .int .i64 t363, .int .i64 t364, .int .i64 t365, .int .i64 t366, .int .i64 t367, .int .i64 t368], .agg #[.int .i64 t361, .int .i64 t362, .int .i64 t363, .int .i64 t364, .int .i64 t365, .int .i64 t366, .int .i64 t367, .int .i64 t368]] rfl (by (try simp only [List.map_toArray, List.map_cons, List.map_nil]); first | done | rfl | (simp only [List.length_drop, List.length_take]; rfl)) ?_; (with_reducible refine (impl_IsBefore.calls k t361 t362 t363 t364 t365 t366 t367 t368 t361 t362 t363 t364 t365 t366 t367 t368 false _ A12.out).mono ?_); rintro e w23 ⟨rfl, hb⟩; refine ⟨_, rfl, ?_⟩; replace BK377 := am (blk_below (g := gb377) (o := .cells #[.int .i64 t361, .int .i64 t362, .int .i64 t363, .int .i64 t364, .int .i64 t365, .int .i64 t366, .int .i64 t367, .int .i64 t368] 35 (0, 0)) (by refine bB ?_; refine blk_far ?_ NB377_378.out _; refine bB ?_; refine blk_far ?_ NB377_378.out _; refine bB ?_; refine blk_far ?_ NB377_378.out _; refine bB ?_; refine blk_far ?_ NB377_378.out _; refine bB ?_; refine blk_far ?_ NB377_378.out _; refine bB ?_; refine blk_far ?_ NB377_378.out _; refine bB ?_; refine blk_far ?_ NB377_378.out _; refine bB ?_; refine blk_far ?_ NB377_378.out _; refine bB ?_; refine blk_put (cs := #[.int .i64 t361, .int .i64 t362, .int .i64 t363, .int .i64 t364, .int .i64 t365, .int .i64 t366, .int .i64 t367, .int .i64 0]) ?_ 7 _ rfl; refine bB ?_; refine blk_put (cs := #[.int .i64 t361, .int .i64 t362, .int .i64 t363, .int .i64 t364, .int .i64 t365, .int .i64 t366, .int .i64 0, .int .i64 0]) ?_ 6 _ rfl; refine bB ?_; refine blk_put (cs := #[.int .i64 t361, .int .i64 t362, .int .i64 t363, .int .i64 t364, .int .i64 t365, .int .i64 0, .int .i64 0, .int .i64 0]) ?_ 5 _ rfl; refine bB ?_; refine blk_put (cs := #[.int .i64 t361, .int .i64 t362, .int .i64 t363, .int .i64 t364, .int .i64 0, .int .i64 0, .int .i64 0, .int .i64 0]) ?_ 4 _ rfl; refine bB ?_; refine blk_put (cs := #[.int .i64 t361, .int .i64 t362, .int .i64 t363, .int .i64 0, .int .i64 0, .int .i64 0, .int .i64 0, .int .i64 0]) ?_ 3 _ rfl; refine bB ?_; refine blk_put (cs := #[.int .i64 t361, .int .i64 t362, .int .i64 0, .int .i64 0, .int .i64 0, .int .i64 0, .int .i64 0, .int .i64 0]) ?_ 2 _ rfl; refine bB ?_; refine blk_put (cs := #[.int .i64 t361, .int .i64 0, .int .i64 0, .int .i64 0, .int .i64 0, .int .i64 0, .int .i64 0, .int .i64 0]) ?_ 1 _ rfl; refine bB ?_; refine blk_put (cs := #[.int .i64 0, .int .i64 0, .int .i64 0, .int .i64 0, .int .i64 0, .int .i64 0, .int .i64 0, .int .i64 0]) ?_ 0 _ rfl; refine bB ?_; exact BK377.out) hb); replace BK378 := am (blk_below (g := gb378) (o := .cells #[.int .i64 t369, .int .i64 t370, .int .i64 t371, .int .i64 t372, .int .i64 t373, .int .i64 t374, .int .i64 t375, .int .i64 t376] 35 (0, 0)) (by refine bB ?_; refine blk_put (cs := #[.int .i64 t369, .int .i64 t370, .int .i64 t371, .int .i64 t372, .int .i64 t373, .int .i64 t374, .int .i64 t375, .int .i64 0]) ?_ 7 _ rfl; refine bB ?_; refine blk_put (cs := #[.int .i64 t369, .int .i64 t370, .int .i64 t371, .int .i64 t372, .int .i64 t373, .int .i64 t374, .int .i64 0, .int .i64 0]) ?_ 6 _ rfl; refine bB ?_; refine blk_put (cs := #[.int .i64 t369, .int .i64 t370, .int .i64 t371, .int .i64 t372, .int .i64 t373, .int .i64 0, .int .i64 0, .int .i64 0]) ?_ 5 _ rfl; refine bB ?_; refine blk_put (cs := #[.int .i64 t369, .int .i64 t370, .int .i64 t371, .int .i64 t372, .int .i64 0, .int .i64 0, .int .i64 0, .int .i64 0]) ?_ 4 _ rfl; refine bB ?_; refine blk_put (cs := #[.int .i64 t369, .int .i64 t370, .int .i64 t371, .int .i64 0, .int .i64 0, .int .i64 0, .int .i64 0, .int .i64 0]) ?_ 3 _ rfl; refine bB ?_; refine blk_put (cs := #[.int .i64 t369, .int .i64 t370, .int .i64 0, .int .i64 0, .int .i64 0, .int .i64 0, .int .i64 0, .int .i64 0]) ?_ 2 _ rfl; refine bB ?_; refine blk_put (cs := #[.int .i64 t369, .int .i64 0, .int .i64 0, .int .i64 0, .int .i64 0, .int .i64 0, .int .i64 0, .int .i64 0]) ?_ 1 _ rfl; refine bB ?_; refine blk_put (cs := #[.int .i64 0, .int .i64 0, .int .i64 0, .int .i64 0, .int .i64 0, .int .i64 0, .int .i64 0, .int .i64 0]) ?_ 0 _ rfl; refine bB ?_; refine blk_far ?_ NB378_377.out _; refine bB ?_; refine blk_far ?_ NB378_377.out _; refine bB ?_; refine blk_far ?_ NB378_377.out _; refine bB ?_; refine blk_far ?_ NB378_377.out _; refine bB ?_; refine blk_far ?_ NB378_377.out _; refine bB ?_; refine blk_far ?_ NB378_377.out _; refine bB ?_; refine blk_far ?_ NB378_377.out _; refine bB ?_; refine blk_far ?_ NB378_377.out _; refine bB ?_; exact BK378.out) hb); replace HB := am (below_step (sB HB.out) hb); (try clear hb); (try clear hb2); (try clear hk); (try clear hi); obtain ⟨hcz24_0, hcz24_1, hcz24_2, hcz24_3, hcz24_4, hcz24_5, hcz24_6, hcz24_7, hfz24_0, hfz24_1, hfz24_2, hfz24_3, hfz24_4, hfz24_5, hfz24_6, hfz24_7⟩ := blk8 BK377.out; obtain ⟨hcz25_0, hcz25_1, hcz25_2, hcz25_3, hcz25_4, hcz25_5, hcz25_6, hcz25_7, hfz25_0, hfz25_1, hfz25_2, hfz25_3, hfz25_4, hfz25_5, hfz25_6, hfz25_7⟩ := blk8 BK378.out) | (go_at_call 58; (with_reducible refine (impl_IsBefore.calls k t361 t362 t363 t364 t365 t366 t367 t368 t369 t370 t371 t372 t373 t374 t375 t376 true _ A17.out).mono ?_); rintro e w26 ⟨rfl, hb⟩; replace BK377 := am (blk_below (bB BK377.out) hb); replace BK378 := am (blk_below (bB BK378.out) hb); replace HB := am (below_step (sB HB.out) hb); (try clear hb); (try clear hb2); (try clear hk); (try clear hi); obtain ⟨hcz27_0, hcz27_1, hcz27_2, hcz27_3, hcz27_4, hcz27_5, hcz27_6, hcz27_7, hfz27_0, hfz27_1, hfz27_2, hfz27_3, hfz27_4, hfz27_5, hfz27_6, hfz27_7⟩ := blk8 BK378.out; obtain ⟨hcz28_0, hcz28_1, hcz28_2, hcz28_3, hcz28_4, hcz28_5, hcz28_6, hcz28_7, hfz28_0, hfz28_1, hfz28_2, hfz28_3, hfz28_4, hfz28_5, hfz28_6, hfz28_7⟩ := blk8 BK377.out) | (go_at_call 58; (with_reducible refine (impl_IsBefore.calls k t369 t370 t371 t372 t373 t374 t375 t376 t361 t362 t363 t364 t365 t366 t367 t368 true _ A19.out).mono ?_); rintro e w29 ⟨rfl, hb⟩; replace BK377 := am (blk_below (bB BK377.out) hb); replace BK378 := am (blk_below (bB BK378.out) hb); replace HB := am (below_step (sB HB.out) hb); (try clear hb); (try clear hb2); (try clear hk); (try clear hi)))
      go_meet
      case rel => exact ⟨_, (true), (by first | rfl | (simp; done) | (simp [*]; done)), H', ⟨by first | omega | exact Nat.le_refl _⟩, ⟨bB BK377.out⟩, ⟨bB BK378.out⟩, ⟨sB HB.out⟩⟩
     ·replace c20 := Bool.eq_false_iff.mpr c20
      subst c20
      have H1 : ((impl_IsBefore.f k t361 t362 t363 t364 t365 t366 t367 t368 t369 t370 t371 t372 t373 t374 t375 t376).bind fun t382 => (if t382 = true then (laws_FnRules.j0 k l0 false t361 t362 t363 t364 t365 t366 t367 t368 t369 t370 t371 t372 t373 t374 t375 t376) else ((impl_IsBefore.f k t369 t370 t371 t372 t373 t374 t375 t376 t361 t362 t363 t364 t365 t366 t367 t368).bind fun t383 => (if t383 = true then (laws_FnRules.j0 k l0 false t361 t362 t363 t364 t365 t366 t367 t368 t369 t370 t371 t372 t373 t374 t375 t376) else ((laws_sameRule.f t361 t362 t363 t364 t365 t366 t367 t368 t369 t370 t371 t372 t373 t374 t375 t376).bind fun t384 => (laws_FnRules.j0 k l0 (!t384) t361 t362 t363 t364 t365 t366 t367 t368 t369 t370 t371 t372 t373 t374 t375 t376)))))) = some r := by rw [if_neg (show ¬ (false = true) by decide)] at H; exact H
      clear H
      have H := H1
      clear H1
      replace H := Option.bind_eq_some_iff.mp H
      obtain ⟨t382, A300, H⟩ := H
      replace H : (if t382 = true then (laws_FnRules.j0 k l0 false t361 t362 t363 t364 t365 t366 t367 t368 t369 t370 t371 t372 t373 t374 t375 t376) else ((impl_IsBefore.f k t369 t370 t371 t372 t373 t374 t375 t376 t361 t362 t363 t364 t365 t366 t367 t368).bind fun t383 => (if t383 = true then (laws_FnRules.j0 k l0 false t361 t362 t363 t364 t365 t366 t367 t368 t369 t370 t371 t372 t373 t374 t375 t376) else ((laws_sameRule.f t361 t362 t363 t364 t365 t366 t367 t368 t369 t370 t371 t372 t373 t374 t375 t376).bind fun t384 => (laws_FnRules.j0 k l0 (!t384) t361 t362 t363 t364 t365 t366 t367 t368 t369 t370 t371 t372 t373 t374 t375 t376))))) = some r := H
      have A30 := Aside0.mk A300
      clear A300
      by_cases c31 : t382 = true
      ·subst c31
       have H1 : (laws_FnRules.j0 k l0 false t361 t362 t363 t364 t365 t366 t367 t368 t369 t370 t371 t372 t373 t374 t375 t376) = some r := by rw [if_pos rfl] at H; exact H
       clear H
       have H := H1
       clear H1
       have H' := Aside0.mk H
       clear H
       have hnb32 := NB377_378.out
       have hnc32 := NB378_377.out
       have hcz33_0 : w8.cell? ⟨gb377, 0, none⟩ = some (.int .i64 0) := (blk_cell BK377.out 0).trans rfl
       have hcz33_1 : w8.cell? ⟨gb377, 1, none⟩ = some (.int .i64 0) := (blk_cell BK377.out 1).trans rfl
       have hcz33_2 : w8.cell? ⟨gb377, 2, none⟩ = some (.int .i64 0) := (blk_cell BK377.out 2).trans rfl
       have hcz33_3 : w8.cell? ⟨gb377, 3, none⟩ = some (.int .i64 0) := (blk_cell BK377.out 3).trans rfl
       have hcz33_4 : w8.cell? ⟨gb377, 4, none⟩ = some (.int .i64 0) := (blk_cell BK377.out 4).trans rfl
       have hcz33_5 : w8.cell? ⟨gb377, 5, none⟩ = some (.int .i64 0) := (blk_cell BK377.out 5).trans rfl
       have hcz33_6 : w8.cell? ⟨gb377, 6, none⟩ = some (.int .i64 0) := (blk_cell BK377.out 6).trans rfl
       have hcz33_7 : w8.cell? ⟨gb377, 7, none⟩ = some (.int .i64 0) := (blk_cell BK377.out 7).trans rfl
       have hfz33_0 := blk_frozen BK377.out 0
       have hfz33_1 := blk_frozen BK377.out 1
       have hfz33_2 := blk_frozen BK377.out 2
       have hfz33_3 := blk_frozen BK377.out 3
       have hfz33_4 := blk_frozen BK377.out 4
       have hfz33_5 := blk_frozen BK377.out 5
       have hfz33_6 := blk_frozen BK377.out 6
       have hfz33_7 := blk_frozen BK377.out 7
       go_wp2_with (first | ((with_reducible refine gate_callee (f := 58) rfl ?_); refine goesL_ (some 20) rfl rfl Try.func58 (by kernel_rfl) rfl #[.agg #[.int .i64 t361, .int .i64 t362, .int .i64 t363, .int .i64 t364, .int .i64 t365, .int .i64 t366, .int .i64 t367, .int .i64 t368], .agg #[.int .i64 t361, .int .i64 t362, .int .i64 t363, .int .i64 t364, .int .i64 t365, .int .i64 t366, .int .i64 t367, .int .i64 t368]] rfl (by (try simp only [List.map_toArray, List.map_cons, List.map_nil]); first | done | rfl | (simp only [List.length_drop, List.length_take]; rfl)) ?_; (with_reducible refine (impl_IsBefore.calls k t361 t362 t363 t364 t365 t366 t367 t368 t361 t362 t363 t364 t365 t366 t367 t368 false _ A12.out).mono ?_); rintro e w34 ⟨rfl, hb⟩; refine ⟨_, rfl, ?_⟩; replace BK377 := am (blk_below (g := gb377) (o := .cells #[.int .i64 t361, .int .i64 t362, .int .i64 t363, .int .i64 t364, .int .i64 t365, .int .i64 t366, .int .i64 t367, .int .i64 t368] 35 (0, 0)) (by refine bB ?_; refine blk_far ?_ NB377_378.out _; refine bB ?_; refine blk_far ?_ NB377_378.out _; refine bB ?_; refine blk_far ?_ NB377_378.out _; refine bB ?_; refine blk_far ?_ NB377_378.out _; refine bB ?_; refine blk_far ?_ NB377_378.out _; refine bB ?_; refine blk_far ?_ NB377_378.out _; refine bB ?_; refine blk_far ?_ NB377_378.out _; refine bB ?_; refine blk_far ?_ NB377_378.out _; refine bB ?_; refine blk_put (cs := #[.int .i64 t361, .int .i64 t362, .int .i64 t363, .int .i64 t364, .int .i64 t365, .int .i64 t366, .int .i64 t367, .int .i64 0]) ?_ 7 _ rfl; refine bB ?_; refine blk_put (cs := #[.int .i64 t361, .int .i64 t362, .int .i64 t363, .int .i64 t364, .int .i64 t365, .int .i64 t366, .int .i64 0, .int .i64 0]) ?_ 6 _ rfl; refine bB ?_; refine blk_put (cs := #[.int .i64 t361, .int .i64 t362, .int .i64 t363, .int .i64 t364, .int .i64 t365, .int .i64 0, .int .i64 0, .int .i64 0]) ?_ 5 _ rfl; refine bB ?_; refine blk_put (cs := #[.int .i64 t361, .int .i64 t362, .int .i64 t363, .int .i64 t364, .int .i64 0, .int .i64 0, .int .i64 0, .int .i64 0]) ?_ 4 _ rfl; refine bB ?_; refine blk_put (cs := #[.int .i64 t361, .int .i64 t362, .int .i64 t363, .int .i64 0, .int .i64 0, .int .i64 0, .int .i64 0, .int .i64 0]) ?_ 3 _ rfl; refine bB ?_; refine blk_put (cs := #[.int .i64 t361, .int .i64 t362, .int .i64 0, .int .i64 0, .int .i64 0, .int .i64 0, .int .i64 0, .int .i64 0]) ?_ 2 _ rfl; refine bB ?_; refine blk_put (cs := #[.int .i64 t361, .int .i64 0, .int .i64 0, .int .i64 0, .int .i64 0, .int .i64 0, .int .i64 0, .int .i64 0]) ?_ 1 _ rfl; refine bB ?_; refine blk_put (cs := #[.int .i64 0, .int .i64 0, .int .i64 0, .int .i64 0, .int .i64 0, .int .i64 0, .int .i64 0, .int .i64 0]) ?_ 0 _ rfl; refine bB ?_; exact BK377.out) hb); replace BK378 := am (blk_below (g := gb378) (o := .cells #[.int .i64 t369, .int .i64 t370, .int .i64 t371, .int .i64 t372, .int .i64 t373, .int .i64 t374, .int .i64 t375, .int .i64 t376] 35 (0, 0)) (by refine bB ?_; refine blk_put (cs := #[.int .i64 t369, .int .i64 t370, .int .i64 t371, .int .i64 t372, .int .i64 t373, .int .i64 t374, .int .i64 t375, .int .i64 0]) ?_ 7 _ rfl; refine bB ?_; refine blk_put (cs := #[.int .i64 t369, .int .i64 t370, .int .i64 t371, .int .i64 t372, .int .i64 t373, .int .i64 t374, .int .i64 0, .int .i64 0]) ?_ 6 _ rfl; refine bB ?_; refine blk_put (cs := #[.int .i64 t369, .int .i64 t370, .int .i64 t371, .int .i64 t372, .int .i64 t373, .int .i64 0, .int .i64 0, .int .i64 0]) ?_ 5 _ rfl; refine bB ?_; refine blk_put (cs := #[.int .i64 t369, .int .i64 t370, .int .i64 t371, .int .i64 t372, .int .i64 0, .int .i64 0, .int .i64 0, .int .i64 0]) ?_ 4 _ rfl; refine bB ?_; refine blk_put (cs := #[.int .i64 t369, .int .i64 t370, .int .i64 t371, .int .i64 0, .int .i64 0, .int .i64 0, .int .i64 0, .int .i64 0]) ?_ 3 _ rfl; refine bB ?_; refine blk_put (cs := #[.int .i64 t369, .int .i64 t370, .int .i64 0, .int .i64 0, .int .i64 0, .int .i64 0, .int .i64 0, .int .i64 0]) ?_ 2 _ rfl; refine bB ?_; refine blk_put (cs := #[.int .i64 t369, .int .i64 0, .int .i64 0, .int .i64 0, .int .i64 0, .int .i64 0, .int .i64 0, .int .i64 0]) ?_ 1 _ rfl; refine bB ?_; refine blk_put (cs := #[.int .i64 0, .int .i64 0, .int .i64 0, .int .i64 0, .int .i64 0, .int .i64 0, .int .i64 0, .int .i64 0]) ?_ 0 _ rfl; refine bB ?_; refine blk_far ?_ NB378_377.out _; refine bB ?_; refine blk_far ?_ NB378_377.out _; refine bB ?_; refine blk_far ?_ NB378_377.out _; refine bB ?_; refine blk_far ?_ NB378_377.out _; refine bB ?_; refine blk_far ?_ NB378_377.out _; refine bB ?_; refine blk_far ?_ NB378_377.out _; refine bB ?_; refine blk_far ?_ NB378_377.out _; refine bB ?_; refine blk_far ?_ NB378_377.out _; refine bB ?_; exact BK378.out) hb); replace HB := am (below_step (sB HB.out) hb); (try clear hb); (try clear hb2); (try clear hk); (try clear hi); obtain ⟨hcz35_0, hcz35_1, hcz35_2, hcz35_3, hcz35_4, hcz35_5, hcz35_6, hcz35_7, hfz35_0, hfz35_1, hfz35_2, hfz35_3, hfz35_4, hfz35_5, hfz35_6, hfz35_7⟩ := blk8 BK377.out; obtain ⟨hcz36_0, hcz36_1, hcz36_2, hcz36_3, hcz36_4, hcz36_5, hcz36_6, hcz36_7, hfz36_0, hfz36_1, hfz36_2, hfz36_3, hfz36_4, hfz36_5, hfz36_6, hfz36_7⟩ := blk8 BK378.out) | (go_at_call 58; (with_reducible refine (impl_IsBefore.calls k t361 t362 t363 t364 t365 t366 t367 t368 t369 t370 t371 t372 t373 t374 t375 t376 true _ A17.out).mono ?_); rintro e w37 ⟨rfl, hb⟩; replace BK377 := am (blk_below (bB BK377.out) hb); replace BK378 := am (blk_below (bB BK378.out) hb); replace HB := am (below_step (sB HB.out) hb); (try clear hb); (try clear hb2); (try clear hk); (try clear hi); obtain ⟨hcz38_0, hcz38_1, hcz38_2, hcz38_3, hcz38_4, hcz38_5, hcz38_6, hcz38_7, hfz38_0, hfz38_1, hfz38_2, hfz38_3, hfz38_4, hfz38_5, hfz38_6, hfz38_7⟩ := blk8 BK378.out; obtain ⟨hcz39_0, hcz39_1, hcz39_2, hcz39_3, hcz39_4, hcz39_5, hcz39_6, hcz39_7, hfz39_0, hfz39_1, hfz39_2, hfz39_3, hfz39_4, hfz39_5, hfz39_6, hfz39_7⟩ := blk8 BK377.out) | (go_at_call 58; (with_reducible refine (impl_IsBefore.calls k t369 t370 t371 t372 t373 t374 t375 t376 t361 t362 t363 t364 t365 t366 t367 t368 false _ A19.out).mono ?_); rintro e w40 ⟨rfl, hb⟩; replace BK377 := am (blk_below (bB BK377.out) hb); replace BK378 := am (blk_below (bB BK378.out) hb); replace HB := am (below_step (sB HB.out) hb); (try clear hb); (try clear hb2); (try clear hk); (try clear hi); obtain ⟨hcz41_0, hcz41_1, hcz41_2, hcz41_3, hcz41_4, hcz41_5, hcz41_6, hcz41_7, hfz41_0, hfz41_1, hfz41_2, hfz41_3, hfz41_4, hfz41_5, hfz41_6, hfz41_7⟩ := blk8 BK377.out; obtain ⟨hcz42_0, hcz42_1, hcz42_2, hcz42_3, hcz42_4, hcz42_5, hcz42_6, hcz42_7, hfz42_0, hfz42_1, hfz42_2, hfz42_3, hfz42_4, hfz42_5, hfz42_6, hfz42_7⟩ := blk8 BK378.out) | (go_at_call 58; (with_reducible refine (impl_IsBefore.calls k t361 t362 t363 t364 t365 t366 t367 t368 t369 t370 t371 t372 t373 t374 t375 t376 true _ A30.out).mono ?_); rintro e w43 ⟨rfl, hb⟩; replace BK377 := am (blk_below (bB BK377.out) hb); replace BK378 := am (blk_below (bB BK378.out) hb); replace HB := am (below_step (sB HB.out) hb); (try clear hb); (try clear hb2); (try clear hk); (try clear hi)))
       go_meet
       case rel => exact ⟨_, (false), (by first | rfl | (simp; done) | (simp [*]; done)), H', ⟨by first | omega | exact Nat.le_refl _⟩, ⟨bB BK377.out⟩, ⟨bB BK378.out⟩, ⟨sB HB.out⟩⟩
      ·exact absurd (Option.some.inj (A30.out.symm.trans A17.out)) c31
    ·replace c18 := Bool.eq_false_iff.mpr c18
     subst c18
     have H1 : ((impl_IsBefore.f k t361 t362 t363 t364 t365 t366 t367 t368 t369 t370 t371 t372 t373 t374 t375 t376).bind fun t385 => (if t385 = true then (laws_FnRules.j0 k l0 false t361 t362 t363 t364 t365 t366 t367 t368 t369 t370 t371 t372 t373 t374 t375 t376) else ((impl_IsBefore.f k t369 t370 t371 t372 t373 t374 t375 t376 t361 t362 t363 t364 t365 t366 t367 t368).bind fun t386 => (if t386 = true then (laws_FnRules.j0 k l0 false t361 t362 t363 t364 t365 t366 t367 t368 t369 t370 t371 t372 t373 t374 t375 t376) else ((laws_sameRule.f t361 t362 t363 t364 t365 t366 t367 t368 t369 t370 t371 t372 t373 t374 t375 t376).bind fun t387 => (laws_FnRules.j0 k l0 (!t387) t361 t362 t363 t364 t365 t366 t367 t368 t369 t370 t371 t372 t373 t374 t375 t376)))))) = some r := by rw [if_neg (show ¬ (false = true) by decide)] at H; exact H
     clear H
     have H := H1
     clear H1
     replace H := Option.bind_eq_some_iff.mp H
     obtain ⟨t385, A800, H⟩ := H
     replace H : (if t385 = true then (laws_FnRules.j0 k l0 false t361 t362 t363 t364 t365 t366 t367 t368 t369 t370 t371 t372 t373 t374 t375 t376) else ((impl_IsBefore.f k t369 t370 t371 t372 t373 t374 t375 t376 t361 t362 t363 t364 t365 t366 t367 t368).bind fun t386 => (if t386 = true then (laws_FnRules.j0 k l0 false t361 t362 t363 t364 t365 t366 t367 t368 t369 t370 t371 t372 t373 t374 t375 t376) else ((laws_sameRule.f t361 t362 t363 t364 t365 t366 t367 t368 t369 t370 t371 t372 t373 t374 t375 t376).bind fun t387 => (laws_FnRules.j0 k l0 (!t387) t361 t362 t363 t364 t365 t366 t367 t368 t369 t370 t371 t372 t373 t374 t375 t376))))) = some r := H
     have A80 := Aside0.mk A800
     clear A800
     by_cases c81 : t385 = true
     ·exact absurd (c81.symm.trans (Option.some.inj (A80.out.symm.trans A17.out))) (by decide)
     ·replace c81 := Bool.eq_false_iff.mpr c81
      subst c81
      have H1 : ((impl_IsBefore.f k t369 t370 t371 t372 t373 t374 t375 t376 t361 t362 t363 t364 t365 t366 t367 t368).bind fun t386 => (if t386 = true then (laws_FnRules.j0 k l0 false t361 t362 t363 t364 t365 t366 t367 t368 t369 t370 t371 t372 t373 t374 t375 t376) else ((laws_sameRule.f t361 t362 t363 t364 t365 t366 t367 t368 t369 t370 t371 t372 t373 t374 t375 t376).bind fun t387 => (laws_FnRules.j0 k l0 (!t387) t361 t362 t363 t364 t365 t366 t367 t368 t369 t370 t371 t372 t373 t374 t375 t376)))) = some r := by rw [if_neg (show ¬ (false = true) by decide)] at H; exact H
      clear H
      have H := H1
      clear H1
      replace H := Option.bind_eq_some_iff.mp H
      obtain ⟨t386, A910, H⟩ := H
      replace H : (if t386 = true then (laws_FnRules.j0 k l0 false t361 t362 t363 t364 t365 t366 t367 t368 t369 t370 t371 t372 t373 t374 t375 t376) else ((laws_sameRule.f t361 t362 t363 t364 t365 t366 t367 t368 t369 t370 t371 t372 t373 t374 t375 t376).bind fun t387 => (laws_FnRules.j0 k l0 (!t387) t361 t362 t363 t364 t365 t366 t367 t368 t369 t370 t371 t372 t373 t374 t375 t376))) = some r := H
      have A91 := Aside0.mk A910
      clear A910
      by_cases c92 : t386 = true
      ·subst c92
       have H1 : (laws_FnRules.j0 k l0 false t361 t362 t363 t364 t365 t366 t367 t368 t369 t370 t371 t372 t373 t374 t375 t376) = some r := by rw [if_pos rfl] at H; exact H
       clear H
       have H := H1
       clear H1
       have H' := Aside0.mk H
       clear H
       have hnb93 := NB377_378.out
       have hnc93 := NB378_377.out
       have hcz94_0 : w8.cell? ⟨gb377, 0, none⟩ = some (.int .i64 0) := (blk_cell BK377.out 0).trans rfl
       have hcz94_1 : w8.cell? ⟨gb377, 1, none⟩ = some (.int .i64 0) := (blk_cell BK377.out 1).trans rfl
       have hcz94_2 : w8.cell? ⟨gb377, 2, none⟩ = some (.int .i64 0) := (blk_cell BK377.out 2).trans rfl
       have hcz94_3 : w8.cell? ⟨gb377, 3, none⟩ = some (.int .i64 0) := (blk_cell BK377.out 3).trans rfl
       have hcz94_4 : w8.cell? ⟨gb377, 4, none⟩ = some (.int .i64 0) := (blk_cell BK377.out 4).trans rfl
       have hcz94_5 : w8.cell? ⟨gb377, 5, none⟩ = some (.int .i64 0) := (blk_cell BK377.out 5).trans rfl
       have hcz94_6 : w8.cell? ⟨gb377, 6, none⟩ = some (.int .i64 0) := (blk_cell BK377.out 6).trans rfl
       have hcz94_7 : w8.cell? ⟨gb377, 7, none⟩ = some (.int .i64 0) := (blk_cell BK377.out 7).trans rfl
       have hfz94_0 := blk_frozen BK377.out 0
       have hfz94_1 := blk_frozen BK377.out 1
       have hfz94_2 := blk_frozen BK377.out 2
       have hfz94_3 := blk_frozen BK377.out 3
       have hfz94_4 := blk_frozen BK377.out 4
       have hfz94_5 := blk_frozen BK377.out 5
       have hfz94_6 := blk_frozen BK377.out 6
       have hfz94_7 := blk_frozen BK377.out 7
       go_wp2_with (first | ((with_reducible refine gate_callee (f := 58) rfl ?_); refine goesL_ (some 20) rfl rfl Try.func58 (by kernel_rfl) rfl #[.agg #[.int .i64 t361, .int .i64 t362, .int .i64 t363, .int .i64 t364, .int .i64 t365, .int .i64 t366, .int .i64 t367, .int .i64 t368], .agg #[.int .i64 t361, .int .i64 t362, .int .i64 t363, .int .i64 t364, .int .i64 t365, .int .i64 t366, .int .i64 t367, .int .i64 t368]] rfl (by (try simp only [List.map_toArray, List.map_cons, List.map_nil]); first | done | rfl | (simp only [List.length_drop, List.length_take]; rfl)) ?_; (with_reducible refine (impl_IsBefore.calls k t361 t362 t363 t364 t365 t366 t367 t368 t361 t362 t363 t364 t365 t366 t367 t368 false _ A12.out).mono ?_); rintro e w95 ⟨rfl, hb⟩; refine ⟨_, rfl, ?_⟩; replace BK377 := am (blk_below (g := gb377) (o := .cells #[.int .i64 t361, .int .i64 t362, .int .i64 t363, .int .i64 t364, .int .i64 t365, .int .i64 t366, .int .i64 t367, .int .i64 t368] 35 (0, 0)) (by refine bB ?_; refine blk_far ?_ NB377_378.out _; refine bB ?_; refine blk_far ?_ NB377_378.out _; refine bB ?_; refine blk_far ?_ NB377_378.out _; refine bB ?_; refine blk_far ?_ NB377_378.out _; refine bB ?_; refine blk_far ?_ NB377_378.out _; refine bB ?_; refine blk_far ?_ NB377_378.out _; refine bB ?_; refine blk_far ?_ NB377_378.out _; refine bB ?_; refine blk_far ?_ NB377_378.out _; refine bB ?_; refine blk_put (cs := #[.int .i64 t361, .int .i64 t362, .int .i64 t363, .int .i64 t364, .int .i64 t365, .int .i64 t366, .int .i64 t367, .int .i64 0]) ?_ 7 _ rfl; refine bB ?_; refine blk_put (cs := #[.int .i64 t361, .int .i64 t362, .int .i64 t363, .int .i64 t364, .int .i64 t365, .int .i64 t366, .int .i64 0, .int .i64 0]) ?_ 6 _ rfl; refine bB ?_; refine blk_put (cs := #[.int .i64 t361, .int .i64 t362, .int .i64 t363, .int .i64 t364, .int .i64 t365, .int .i64 0, .int .i64 0, .int .i64 0]) ?_ 5 _ rfl; refine bB ?_; refine blk_put (cs := #[.int .i64 t361, .int .i64 t362, .int .i64 t363, .int .i64 t364, .int .i64 0, .int .i64 0, .int .i64 0, .int .i64 0]) ?_ 4 _ rfl; refine bB ?_; refine blk_put (cs := #[.int .i64 t361, .int .i64 t362, .int .i64 t363, .int .i64 0, .int .i64 0, .int .i64 0, .int .i64 0, .int .i64 0]) ?_ 3 _ rfl; refine bB ?_; refine blk_put (cs := #[.int .i64 t361, .int .i64 t362, .int .i64 0, .int .i64 0, .int .i64 0, .int .i64 0, .int .i64 0, .int .i64 0]) ?_ 2 _ rfl; refine bB ?_; refine blk_put (cs := #[.int .i64 t361, .int .i64 0, .int .i64 0, .int .i64 0, .int .i64 0, .int .i64 0, .int .i64 0, .int .i64 0]) ?_ 1 _ rfl; refine bB ?_; refine blk_put (cs := #[.int .i64 0, .int .i64 0, .int .i64 0, .int .i64 0, .int .i64 0, .int .i64 0, .int .i64 0, .int .i64 0]) ?_ 0 _ rfl; refine bB ?_; exact BK377.out) hb); replace BK378 := am (blk_below (g := gb378) (o := .cells #[.int .i64 t369, .int .i64 t370, .int .i64 t371, .int .i64 t372, .int .i64 t373, .int .i64 t374, .int .i64 t375, .int .i64 t376] 35 (0, 0)) (by refine bB ?_; refine blk_put (cs := #[.int .i64 t369, .int .i64 t370, .int .i64 t371, .int .i64 t372, .int .i64 t373, .int .i64 t374, .int .i64 t375, .int .i64 0]) ?_ 7 _ rfl; refine bB ?_; refine blk_put (cs := #[.int .i64 t369, .int .i64 t370, .int .i64 t371, .int .i64 t372, .int .i64 t373, .int .i64 t374, .int .i64 0, .int .i64 0]) ?_ 6 _ rfl; refine bB ?_; refine blk_put (cs := #[.int .i64 t369, .int .i64 t370, .int .i64 t371, .int .i64 t372, .int .i64 t373, .int .i64 0, .int .i64 0, .int .i64 0]) ?_ 5 _ rfl; refine bB ?_; refine blk_put (cs := #[.int .i64 t369, .int .i64 t370, .int .i64 t371, .int .i64 t372, .int .i64 0, .int .i64 0, .int .i64 0, .int .i64 0]) ?_ 4 _ rfl; refine bB ?_; refine blk_put (cs := #[.int .i64 t369, .int .i64 t370, .int .i64 t371, .int .i64 0, .int .i64 0, .int .i64 0, .int .i64 0, .int .i64 0]) ?_ 3 _ rfl; refine bB ?_; refine blk_put (cs := #[.int .i64 t369, .int .i64 t370, .int .i64 0, .int .i64 0, .int .i64 0, .int .i64 0, .int .i64 0, .int .i64 0]) ?_ 2 _ rfl; refine bB ?_; refine blk_put (cs := #[.int .i64 t369, .int .i64 0, .int .i64 0, .int .i64 0, .int .i64 0, .int .i64 0, .int .i64 0, .int .i64 0]) ?_ 1 _ rfl; refine bB ?_; refine blk_put (cs := #[.int .i64 0, .int .i64 0, .int .i64 0, .int .i64 0, .int .i64 0, .int .i64 0, .int .i64 0, .int .i64 0]) ?_ 0 _ rfl; refine bB ?_; refine blk_far ?_ NB378_377.out _; refine bB ?_; refine blk_far ?_ NB378_377.out _; refine bB ?_; refine blk_far ?_ NB378_377.out _; refine bB ?_; refine blk_far ?_ NB378_377.out _; refine bB ?_; refine blk_far ?_ NB378_377.out _; refine bB ?_; refine blk_far ?_ NB378_377.out _; refine bB ?_; refine blk_far ?_ NB378_377.out _; refine bB ?_; refine blk_far ?_ NB378_377.out _; refine bB ?_; exact BK378.out) hb); replace HB := am (below_step (sB HB.out) hb); (try clear hb); (try clear hb2); (try clear hk); (try clear hi); obtain ⟨hcz96_0, hcz96_1, hcz96_2, hcz96_3, hcz96_4, hcz96_5, hcz96_6, hcz96_7, hfz96_0, hfz96_1, hfz96_2, hfz96_3, hfz96_4, hfz96_5, hfz96_6, hfz96_7⟩ := blk8 BK377.out; obtain ⟨hcz97_0, hcz97_1, hcz97_2, hcz97_3, hcz97_4, hcz97_5, hcz97_6, hcz97_7, hfz97_0, hfz97_1, hfz97_2, hfz97_3, hfz97_4, hfz97_5, hfz97_6, hfz97_7⟩ := blk8 BK378.out) | (go_at_call 58; (with_reducible refine (impl_IsBefore.calls k t361 t362 t363 t364 t365 t366 t367 t368 t369 t370 t371 t372 t373 t374 t375 t376 false _ A17.out).mono ?_); rintro e w98 ⟨rfl, hb⟩; replace BK377 := am (blk_below (bB BK377.out) hb); replace BK378 := am (blk_below (bB BK378.out) hb); replace HB := am (below_step (sB HB.out) hb); (try clear hb); (try clear hb2); (try clear hk); (try clear hi); obtain ⟨hcz99_0, hcz99_1, hcz99_2, hcz99_3, hcz99_4, hcz99_5, hcz99_6, hcz99_7, hfz99_0, hfz99_1, hfz99_2, hfz99_3, hfz99_4, hfz99_5, hfz99_6, hfz99_7⟩ := blk8 BK377.out; obtain ⟨hcz100_0, hcz100_1, hcz100_2, hcz100_3, hcz100_4, hcz100_5, hcz100_6, hcz100_7, hfz100_0, hfz100_1, hfz100_2, hfz100_3, hfz100_4, hfz100_5, hfz100_6, hfz100_7⟩ := blk8 BK378.out) | (go_at_call 58; (with_reducible refine (impl_IsBefore.calls k t361 t362 t363 t364 t365 t366 t367 t368 t369 t370 t371 t372 t373 t374 t375 t376 false _ A80.out).mono ?_); rintro e w101 ⟨rfl, hb⟩; replace BK377 := am (blk_below (bB BK377.out) hb); replace BK378 := am (blk_below (bB BK378.out) hb); replace HB := am (below_step (sB HB.out) hb); (try clear hb); (try clear hb2); (try clear hk); (try clear hi); obtain ⟨hcz102_0, hcz102_1, hcz102_2, hcz102_3, hcz102_4, hcz102_5, hcz102_6, hcz102_7, hfz102_0, hfz102_1, hfz102_2, hfz102_3, hfz102_4, hfz102_5, hfz102_6, hfz102_7⟩ := blk8 BK378.out; obtain ⟨hcz103_0, hcz103_1, hcz103_2, hcz103_3, hcz103_4, hcz103_5, hcz103_6, hcz103_7, hfz103_0, hfz103_1, hfz103_2, hfz103_3, hfz103_4, hfz103_5, hfz103_6, hfz103_7⟩ := blk8 BK377.out) | (go_at_call 58; (with_reducible refine (impl_IsBefore.calls k t369 t370 t371 t372 t373 t374 t375 t376 t361 t362 t363 t364 t365 t366 t367 t368 true _ A91.out).mono ?_); rintro e w104 ⟨rfl, hb⟩; replace BK377 := am (blk_below (bB BK377.out) hb); replace BK378 := am (blk_below (bB BK378.out) hb); replace HB := am (below_step (sB HB.out) hb); (try clear hb); (try clear hb2); (try clear hk); (try clear hi)))
       go_meet
       case rel => exact ⟨_, (false), (by first | rfl | (simp; done) | (simp [*]; done)), H', ⟨by first | omega | exact Nat.le_refl _⟩, ⟨bB BK377.out⟩, ⟨bB BK378.out⟩, ⟨sB HB.out⟩⟩
      ·replace c92 := Bool.eq_false_iff.mpr c92
       subst c92
       have H1 : ((laws_sameRule.f t361 t362 t363 t364 t365 t366 t367 t368 t369 t370 t371 t372 t373 t374 t375 t376).bind fun t387 => (laws_FnRules.j0 k l0 (!t387) t361 t362 t363 t364 t365 t366 t367 t368 t369 t370 t371 t372 t373 t374 t375 t376)) = some r := by rw [if_neg (show ¬ (false = true) by decide)] at H; exact H
       clear H
       have H := H1
       clear H1
       replace H := Option.bind_eq_some_iff.mp H
       obtain ⟨t387, A1050, H⟩ := H
       replace H : (laws_FnRules.j0 k l0 (!t387) t361 t362 t363 t364 t365 t366 t367 t368 t369 t370 t371 t372 t373 t374 t375 t376) = some r := H
       have A105 := Aside0.mk A1050
       clear A1050
       have H' := Aside0.mk H
       clear H
       have hnb106 := NB377_378.out
       have hnc106 := NB378_377.out
       have hcz107_0 : w8.cell? ⟨gb377, 0, none⟩ = some (.int .i64 0) := (blk_cell BK377.out 0).trans rfl
       have hcz107_1 : w8.cell? ⟨gb377, 1, none⟩ = some (.int .i64 0) := (blk_cell BK377.out 1).trans rfl
       have hcz107_2 : w8.cell? ⟨gb377, 2, none⟩ = some (.int .i64 0) := (blk_cell BK377.out 2).trans rfl
       have hcz107_3 : w8.cell? ⟨gb377, 3, none⟩ = some (.int .i64 0) := (blk_cell BK377.out 3).trans rfl
       have hcz107_4 : w8.cell? ⟨gb377, 4, none⟩ = some (.int .i64 0) := (blk_cell BK377.out 4).trans rfl
       have hcz107_5 : w8.cell? ⟨gb377, 5, none⟩ = some (.int .i64 0) := (blk_cell BK377.out 5).trans rfl
       have hcz107_6 : w8.cell? ⟨gb377, 6, none⟩ = some (.int .i64 0) := (blk_cell BK377.out 6).trans rfl
       have hcz107_7 : w8.cell? ⟨gb377, 7, none⟩ = some (.int .i64 0) := (blk_cell BK377.out 7).trans rfl
       have hfz107_0 := blk_frozen BK377.out 0
       have hfz107_1 := blk_frozen BK377.out 1
       have hfz107_2 := blk_frozen BK377.out 2
       have hfz107_3 := blk_frozen BK377.out 3
       have hfz107_4 := blk_frozen BK377.out 4
       have hfz107_5 := blk_frozen BK377.out 5
       have hfz107_6 := blk_frozen BK377.out 6
       have hfz107_7 := blk_frozen BK377.out 7
       go_wp2_with (first | ((with_reducible refine gate_callee (f := 58) rfl ?_); refine goesL_ (some 20) rfl rfl Try.func58 (by kernel_rfl) rfl #[.agg #[.int .i64 t361, .int .i64 t362, .int .i64 t363, .int .i64 t364, .int .i64 t365, .int .i64 t366, .int .i64 t367, .int .i64 t368], .agg #[.int .i64 t361, .int .i64 t362, .int .i64 t363, .int .i64 t364, .int .i64 t365, .int .i64 t366, .int .i64 t367, .int .i64 t368]] rfl (by (try simp only [List.map_toArray, List.map_cons, List.map_nil]); first | done | rfl | (simp only [List.length_drop, List.length_take]; rfl)) ?_; (with_reducible refine (impl_IsBefore.calls k t361 t362 t363 t364 t365 t366 t367 t368 t361 t362 t363 t364 t365 t366 t367 t368 false _ A12.out).mono ?_); rintro e w108 ⟨rfl, hb⟩; refine ⟨_, rfl, ?_⟩; replace BK377 := am (blk_below (g := gb377) (o := .cells #[.int .i64 t361, .int .i64 t362, .int .i64 t363, .int .i64 t364, .int .i64 t365, .int .i64 t366, .int .i64 t367, .int .i64 t368] 35 (0, 0)) (by refine bB ?_; refine blk_far ?_ NB377_378.out _; refine bB ?_; refine blk_far ?_ NB377_378.out _; refine bB ?_; refine blk_far ?_ NB377_378.out _; refine bB ?_; refine blk_far ?_ NB377_378.out _; refine bB ?_; refine blk_far ?_ NB377_378.out _; refine bB ?_; refine blk_far ?_ NB377_378.out _; refine bB ?_; refine blk_far ?_ NB377_378.out _; refine bB ?_; refine blk_far ?_ NB377_378.out _; refine bB ?_; refine blk_put (cs := #[.int .i64 t361, .int .i64 t362, .int .i64 t363, .int .i64 t364, .int .i64 t365, .int .i64 t366, .int .i64 t367, .int .i64 0]) ?_ 7 _ rfl; refine bB ?_; refine blk_put (cs := #[.int .i64 t361, .int .i64 t362, .int .i64 t363, .int .i64 t364, .int .i64 t365, .int .i64 t366, .int .i64 0, .int .i64 0]) ?_ 6 _ rfl; refine bB ?_; refine blk_put (cs := #[.int .i64 t361, .int .i64 t362, .int .i64 t363, .int .i64 t364, .int .i64 t365, .int .i64 0, .int .i64 0, .int .i64 0]) ?_ 5 _ rfl; refine bB ?_; refine blk_put (cs := #[.int .i64 t361, .int .i64 t362, .int .i64 t363, .int .i64 t364, .int .i64 0, .int .i64 0, .int .i64 0, .int .i64 0]) ?_ 4 _ rfl; refine bB ?_; refine blk_put (cs := #[.int .i64 t361, .int .i64 t362, .int .i64 t363, .int .i64 0, .int .i64 0, .int .i64 0, .int .i64 0, .int .i64 0]) ?_ 3 _ rfl; refine bB ?_; refine blk_put (cs := #[.int .i64 t361, .int .i64 t362, .int .i64 0, .int .i64 0, .int .i64 0, .int .i64 0, .int .i64 0, .int .i64 0]) ?_ 2 _ rfl; refine bB ?_; refine blk_put (cs := #[.int .i64 t361, .int .i64 0, .int .i64 0, .int .i64 0, .int .i64 0, .int .i64 0, .int .i64 0, .int .i64 0]) ?_ 1 _ rfl; refine bB ?_; refine blk_put (cs := #[.int .i64 0, .int .i64 0, .int .i64 0, .int .i64 0, .int .i64 0, .int .i64 0, .int .i64 0, .int .i64 0]) ?_ 0 _ rfl; refine bB ?_; exact BK377.out) hb); replace BK378 := am (blk_below (g := gb378) (o := .cells #[.int .i64 t369, .int .i64 t370, .int .i64 t371, .int .i64 t372, .int .i64 t373, .int .i64 t374, .int .i64 t375, .int .i64 t376] 35 (0, 0)) (by refine bB ?_; refine blk_put (cs := #[.int .i64 t369, .int .i64 t370, .int .i64 t371, .int .i64 t372, .int .i64 t373, .int .i64 t374, .int .i64 t375, .int .i64 0]) ?_ 7 _ rfl; refine bB ?_; refine blk_put (cs := #[.int .i64 t369, .int .i64 t370, .int .i64 t371, .int .i64 t372, .int .i64 t373, .int .i64 t374, .int .i64 0, .int .i64 0]) ?_ 6 _ rfl; refine bB ?_; refine blk_put (cs := #[.int .i64 t369, .int .i64 t370, .int .i64 t371, .int .i64 t372, .int .i64 t373, .int .i64 0, .int .i64 0, .int .i64 0]) ?_ 5 _ rfl; refine bB ?_; refine blk_put (cs := #[.int .i64 t369, .int .i64 t370, .int .i64 t371, .int .i64 t372, .int .i64 0, .int .i64 0, .int .i64 0, .int .i64 0]) ?_ 4 _ rfl; refine bB ?_; refine blk_put (cs := #[.int .i64 t369, .int .i64 t370, .int .i64 t371, .int .i64 0, .int .i64 0, .int .i64 0, .int .i64 0, .int .i64 0]) ?_ 3 _ rfl; refine bB ?_; refine blk_put (cs := #[.int .i64 t369, .int .i64 t370, .int .i64 0, .int .i64 0, .int .i64 0, .int .i64 0, .int .i64 0, .int .i64 0]) ?_ 2 _ rfl; refine bB ?_; refine blk_put (cs := #[.int .i64 t369, .int .i64 0, .int .i64 0, .int .i64 0, .int .i64 0, .int .i64 0, .int .i64 0, .int .i64 0]) ?_ 1 _ rfl; refine bB ?_; refine blk_put (cs := #[.int .i64 0, .int .i64 0, .int .i64 0, .int .i64 0, .int .i64 0, .int .i64 0, .int .i64 0, .int .i64 0]) ?_ 0 _ rfl; refine bB ?_; refine blk_far ?_ NB378_377.out _; refine bB ?_; refine blk_far ?_ NB378_377.out _; refine bB ?_; refine blk_far ?_ NB378_377.out _; refine bB ?_; refine blk_far ?_ NB378_377.out _; refine bB ?_; refine blk_far ?_ NB378_377.out _; refine bB ?_; refine blk_far ?_ NB378_377.out _; refine bB ?_; refine blk_far ?_ NB378_377.out _; refine bB ?_; refine blk_far ?_ NB378_377.out _; refine bB ?_; exact BK378.out) hb); replace HB := am (below_step (sB HB.out) hb); (try clear hb); (try clear hb2); (try clear hk); (try clear hi); obtain ⟨hcz109_0, hcz109_1, hcz109_2, hcz109_3, hcz109_4, hcz109_5, hcz109_6, hcz109_7, hfz109_0, hfz109_1, hfz109_2, hfz109_3, hfz109_4, hfz109_5, hfz109_6, hfz109_7⟩ := blk8 BK377.out; obtain ⟨hcz110_0, hcz110_1, hcz110_2, hcz110_3, hcz110_4, hcz110_5, hcz110_6, hcz110_7, hfz110_0, hfz110_1, hfz110_2, hfz110_3, hfz110_4, hfz110_5, hfz110_6, hfz110_7⟩ := blk8 BK378.out) | (go_at_call 58; (with_reducible refine (impl_IsBefore.calls k t361 t362 t363 t364 t365 t366 t367 t368 t369 t370 t371 t372 t373 t374 t375 t376 false _ A17.out).mono ?_); rintro e w111 ⟨rfl, hb⟩; replace BK377 := am (blk_below (bB BK377.out) hb); replace BK378 := am (blk_below (bB BK378.out) hb); replace HB := am (below_step (sB HB.out) hb); (try clear hb); (try clear hb2); (try clear hk); (try clear hi); obtain ⟨hcz112_0, hcz112_1, hcz112_2, hcz112_3, hcz112_4, hcz112_5, hcz112_6, hcz112_7, hfz112_0, hfz112_1, hfz112_2, hfz112_3, hfz112_4, hfz112_5, hfz112_6, hfz112_7⟩ := blk8 BK377.out; obtain ⟨hcz113_0, hcz113_1, hcz113_2, hcz113_3, hcz113_4, hcz113_5, hcz113_6, hcz113_7, hfz113_0, hfz113_1, hfz113_2, hfz113_3, hfz113_4, hfz113_5, hfz113_6, hfz113_7⟩ := blk8 BK378.out) | (go_at_call 58; (with_reducible refine (impl_IsBefore.calls k t361 t362 t363 t364 t365 t366 t367 t368 t369 t370 t371 t372 t373 t374 t375 t376 false _ A80.out).mono ?_); rintro e w114 ⟨rfl, hb⟩; replace BK377 := am (blk_below (bB BK377.out) hb); replace BK378 := am (blk_below (bB BK378.out) hb); replace HB := am (below_step (sB HB.out) hb); (try clear hb); (try clear hb2); (try clear hk); (try clear hi); obtain ⟨hcz115_0, hcz115_1, hcz115_2, hcz115_3, hcz115_4, hcz115_5, hcz115_6, hcz115_7, hfz115_0, hfz115_1, hfz115_2, hfz115_3, hfz115_4, hfz115_5, hfz115_6, hfz115_7⟩ := blk8 BK378.out; obtain ⟨hcz116_0, hcz116_1, hcz116_2, hcz116_3, hcz116_4, hcz116_5, hcz116_6, hcz116_7, hfz116_0, hfz116_1, hfz116_2, hfz116_3, hfz116_4, hfz116_5, hfz116_6, hfz116_7⟩ := blk8 BK377.out) | (go_at_call 58; (with_reducible refine (impl_IsBefore.calls k t369 t370 t371 t372 t373 t374 t375 t376 t361 t362 t363 t364 t365 t366 t367 t368 false _ A91.out).mono ?_); rintro e w117 ⟨rfl, hb⟩; replace BK377 := am (blk_below (bB BK377.out) hb); replace BK378 := am (blk_below (bB BK378.out) hb); replace HB := am (below_step (sB HB.out) hb); (try clear hb); (try clear hb2); (try clear hk); (try clear hi); obtain ⟨hcz118_0, hcz118_1, hcz118_2, hcz118_3, hcz118_4, hcz118_5, hcz118_6, hcz118_7, hfz118_0, hfz118_1, hfz118_2, hfz118_3, hfz118_4, hfz118_5, hfz118_6, hfz118_7⟩ := blk8 BK377.out; obtain ⟨hcz119_0, hcz119_1, hcz119_2, hcz119_3, hcz119_4, hcz119_5, hcz119_6, hcz119_7, hfz119_0, hfz119_1, hfz119_2, hfz119_3, hfz119_4, hfz119_5, hfz119_6, hfz119_7⟩ := blk8 BK378.out) | (go_at_call 59; (with_reducible refine (laws_sameRule.calls t361 t362 t363 t364 t365 t366 t367 t368 t369 t370 t371 t372 t373 t374 t375 t376 t387 _ A105.out).mono ?_); rintro e w120 ⟨rfl, hb⟩; replace BK377 := am (blk_below (bB BK377.out) hb); replace BK378 := am (blk_below (bB BK378.out) hb); replace HB := am (below_step (sB HB.out) hb); (try clear hb); (try clear hb2); (try clear hk); (try clear hi)))
       go_meet
       case rel => exact ⟨_, (!t387), (by first | rfl | (simp; done) | (simp [*]; done)), H', ⟨by first | omega | exact Nat.le_refl _⟩, ⟨bB BK377.out⟩, ⟨bB BK378.out⟩, ⟨sB HB.out⟩⟩
  case rest =>
   clear HC5
   try clear c1
   try clear c2
   try clear p2
   try clear c3
   try clear c4
   try clear c5
   try clear c6
   try clear c8
   try clear c9
   try clear c10
   try clear c13
   try clear c14
   try clear c18
   try clear c20
   try clear c21
   try clear c31
   try clear c32
   try clear c36
   try clear c45
   try clear c46
   try clear c57
   try clear c58
   try clear c62
   try clear c81
   try clear c82
   try clear c92
   try clear c93
   try clear c106
   try clear hcz100_0 hcz100_1 hcz100_2 hcz100_3 hcz100_4 hcz100_5 hcz100_6 hcz100_7
   try clear hcz102_0 hcz102_1 hcz102_2 hcz102_3 hcz102_4 hcz102_5 hcz102_6 hcz102_7
   try clear hcz103_0 hcz103_1 hcz103_2 hcz103_3 hcz103_4 hcz103_5 hcz103_6 hcz103_7
   try clear hcz107_0 hcz107_1 hcz107_2 hcz107_3 hcz107_4 hcz107_5 hcz107_6 hcz107_7
   try clear hcz109_0 hcz109_1 hcz109_2 hcz109_3 hcz109_4 hcz109_5 hcz109_6 hcz109_7
   try clear hcz10_0 hcz10_1 hcz10_2 hcz10_3 hcz10_4 hcz10_5 hcz10_6 hcz10_7
   try clear hcz110_0 hcz110_1 hcz110_2 hcz110_3 hcz110_4 hcz110_5 hcz110_6 hcz110_7
   try clear hcz112_0 hcz112_1 hcz112_2 hcz112_3 hcz112_4 hcz112_5 hcz112_6 hcz112_7
   try clear hcz113_0 hcz113_1 hcz113_2 hcz113_3 hcz113_4 hcz113_5 hcz113_6 hcz113_7
   try clear hcz115_0 hcz115_1 hcz115_2 hcz115_3 hcz115_4 hcz115_5 hcz115_6 hcz115_7
   try clear hcz116_0 hcz116_1 hcz116_2 hcz116_3 hcz116_4 hcz116_5 hcz116_6 hcz116_7
   try clear hcz118_0 hcz118_1 hcz118_2 hcz118_3 hcz118_4 hcz118_5 hcz118_6 hcz118_7
   try clear hcz119_0 hcz119_1 hcz119_2 hcz119_3 hcz119_4 hcz119_5 hcz119_6 hcz119_7
   try clear hcz11_0 hcz11_1 hcz11_2 hcz11_3 hcz11_4 hcz11_5 hcz11_6 hcz11_7
   try clear hcz15_0 hcz15_1 hcz15_2 hcz15_3 hcz15_4 hcz15_5 hcz15_6 hcz15_7
   try clear hcz22_0 hcz22_1 hcz22_2 hcz22_3 hcz22_4 hcz22_5 hcz22_6 hcz22_7
   try clear hcz24_0 hcz24_1 hcz24_2 hcz24_3 hcz24_4 hcz24_5 hcz24_6 hcz24_7
   try clear hcz25_0 hcz25_1 hcz25_2 hcz25_3 hcz25_4 hcz25_5 hcz25_6 hcz25_7
   try clear hcz27_0 hcz27_1 hcz27_2 hcz27_3 hcz27_4 hcz27_5 hcz27_6 hcz27_7
   try clear hcz28_0 hcz28_1 hcz28_2 hcz28_3 hcz28_4 hcz28_5 hcz28_6 hcz28_7
   try clear hcz33_0 hcz33_1 hcz33_2 hcz33_3 hcz33_4 hcz33_5 hcz33_6 hcz33_7
   try clear hcz35_0 hcz35_1 hcz35_2 hcz35_3 hcz35_4 hcz35_5 hcz35_6 hcz35_7
   try clear hcz36_0 hcz36_1 hcz36_2 hcz36_3 hcz36_4 hcz36_5 hcz36_6 hcz36_7
   try clear hcz38_0 hcz38_1 hcz38_2 hcz38_3 hcz38_4 hcz38_5 hcz38_6 hcz38_7
   try clear hcz39_0 hcz39_1 hcz39_2 hcz39_3 hcz39_4 hcz39_5 hcz39_6 hcz39_7
   try clear hcz41_0 hcz41_1 hcz41_2 hcz41_3 hcz41_4 hcz41_5 hcz41_6 hcz41_7
   try clear hcz42_0 hcz42_1 hcz42_2 hcz42_3 hcz42_4 hcz42_5 hcz42_6 hcz42_7
   try clear hcz47_0 hcz47_1 hcz47_2 hcz47_3 hcz47_4 hcz47_5 hcz47_6 hcz47_7
   try clear hcz49_0 hcz49_1 hcz49_2 hcz49_3 hcz49_4 hcz49_5 hcz49_6 hcz49_7
   try clear hcz50_0 hcz50_1 hcz50_2 hcz50_3 hcz50_4 hcz50_5 hcz50_6 hcz50_7
   try clear hcz52_0 hcz52_1 hcz52_2 hcz52_3 hcz52_4 hcz52_5 hcz52_6 hcz52_7
   try clear hcz53_0 hcz53_1 hcz53_2 hcz53_3 hcz53_4 hcz53_5 hcz53_6 hcz53_7
   try clear hcz55_0 hcz55_1 hcz55_2 hcz55_3 hcz55_4 hcz55_5 hcz55_6 hcz55_7
   try clear hcz56_0 hcz56_1 hcz56_2 hcz56_3 hcz56_4 hcz56_5 hcz56_6 hcz56_7
   try clear hcz58_0 hcz58_1 hcz58_2 hcz58_3 hcz58_4 hcz58_5 hcz58_6 hcz58_7
   try clear hcz59_0 hcz59_1 hcz59_2 hcz59_3 hcz59_4 hcz59_5 hcz59_6 hcz59_7
   try clear hcz63_0 hcz63_1 hcz63_2 hcz63_3 hcz63_4 hcz63_5 hcz63_6 hcz63_7
   try clear hcz65_0 hcz65_1 hcz65_2 hcz65_3 hcz65_4 hcz65_5 hcz65_6 hcz65_7
   try clear hcz66_0 hcz66_1 hcz66_2 hcz66_3 hcz66_4 hcz66_5 hcz66_6 hcz66_7
   try clear hcz68_0 hcz68_1 hcz68_2 hcz68_3 hcz68_4 hcz68_5 hcz68_6 hcz68_7
   try clear hcz69_0 hcz69_1 hcz69_2 hcz69_3 hcz69_4 hcz69_5 hcz69_6 hcz69_7
   try clear hcz71_0 hcz71_1 hcz71_2 hcz71_3 hcz71_4 hcz71_5 hcz71_6 hcz71_7
   try clear hcz72_0 hcz72_1 hcz72_2 hcz72_3 hcz72_4 hcz72_5 hcz72_6 hcz72_7
   try clear hcz74_0 hcz74_1 hcz74_2 hcz74_3 hcz74_4 hcz74_5 hcz74_6 hcz74_7
   try clear hcz75_0 hcz75_1 hcz75_2 hcz75_3 hcz75_4 hcz75_5 hcz75_6 hcz75_7
   try clear hcz77_0 hcz77_1 hcz77_2 hcz77_3 hcz77_4 hcz77_5 hcz77_6 hcz77_7
   try clear hcz78_0 hcz78_1 hcz78_2 hcz78_3 hcz78_4 hcz78_5 hcz78_6 hcz78_7
   try clear hcz83_0 hcz83_1 hcz83_2 hcz83_3 hcz83_4 hcz83_5 hcz83_6 hcz83_7
   try clear hcz85_0 hcz85_1 hcz85_2 hcz85_3 hcz85_4 hcz85_5 hcz85_6 hcz85_7
   try clear hcz86_0 hcz86_1 hcz86_2 hcz86_3 hcz86_4 hcz86_5 hcz86_6 hcz86_7
   try clear hcz88_0 hcz88_1 hcz88_2 hcz88_3 hcz88_4 hcz88_5 hcz88_6 hcz88_7
   try clear hcz89_0 hcz89_1 hcz89_2 hcz89_3 hcz89_4 hcz89_5 hcz89_6 hcz89_7
   try clear hcz94_0 hcz94_1 hcz94_2 hcz94_3 hcz94_4 hcz94_5 hcz94_6 hcz94_7
   try clear hcz96_0 hcz96_1 hcz96_2 hcz96_3 hcz96_4 hcz96_5 hcz96_6 hcz96_7
   try clear hcz97_0 hcz97_1 hcz97_2 hcz97_3 hcz97_4 hcz97_5 hcz97_6 hcz97_7
   try clear hcz99_0 hcz99_1 hcz99_2 hcz99_3 hcz99_4 hcz99_5 hcz99_6 hcz99_7
   try clear hfz100_0 hfz100_1 hfz100_2 hfz100_3 hfz100_4 hfz100_5 hfz100_6 hfz100_7
   try clear hfz102_0 hfz102_1 hfz102_2 hfz102_3 hfz102_4 hfz102_5 hfz102_6 hfz102_7
   try clear hfz103_0 hfz103_1 hfz103_2 hfz103_3 hfz103_4 hfz103_5 hfz103_6 hfz103_7
   try clear hfz107_0 hfz107_1 hfz107_2 hfz107_3 hfz107_4 hfz107_5 hfz107_6 hfz107_7
   try clear hfz109_0 hfz109_1 hfz109_2 hfz109_3 hfz109_4 hfz109_5 hfz109_6 hfz109_7
   try clear hfz10_0 hfz10_1 hfz10_2 hfz10_3 hfz10_4 hfz10_5 hfz10_6 hfz10_7
   try clear hfz110_0 hfz110_1 hfz110_2 hfz110_3 hfz110_4 hfz110_5 hfz110_6 hfz110_7
   try clear hfz112_0 hfz112_1 hfz112_2 hfz112_3 hfz112_4 hfz112_5 hfz112_6 hfz112_7
   try clear hfz113_0 hfz113_1 hfz113_2 hfz113_3 hfz113_4 hfz113_5 hfz113_6 hfz113_7
   try clear hfz115_0 hfz115_1 hfz115_2 hfz115_3 hfz115_4 hfz115_5 hfz115_6 hfz115_7
   try clear hfz116_0 hfz116_1 hfz116_2 hfz116_3 hfz116_4 hfz116_5 hfz116_6 hfz116_7
   try clear hfz118_0 hfz118_1 hfz118_2 hfz118_3 hfz118_4 hfz118_5 hfz118_6 hfz118_7
   try clear hfz119_0 hfz119_1 hfz119_2 hfz119_3 hfz119_4 hfz119_5 hfz119_6 hfz119_7
   try clear hfz11_0 hfz11_1 hfz11_2 hfz11_3 hfz11_4 hfz11_5 hfz11_6 hfz11_7
   try clear hfz15_0 hfz15_1 hfz15_2 hfz15_3 hfz15_4 hfz15_5 hfz15_6 hfz15_7
   try clear hfz22_0 hfz22_1 hfz22_2 hfz22_3 hfz22_4 hfz22_5 hfz22_6 hfz22_7
   try clear hfz24_0 hfz24_1 hfz24_2 hfz24_3 hfz24_4 hfz24_5 hfz24_6 hfz24_7
   try clear hfz25_0 hfz25_1 hfz25_2 hfz25_3 hfz25_4 hfz25_5 hfz25_6 hfz25_7
   try clear hfz27_0 hfz27_1 hfz27_2 hfz27_3 hfz27_4 hfz27_5 hfz27_6 hfz27_7
   try clear hfz28_0 hfz28_1 hfz28_2 hfz28_3 hfz28_4 hfz28_5 hfz28_6 hfz28_7
   try clear hfz33_0 hfz33_1 hfz33_2 hfz33_3 hfz33_4 hfz33_5 hfz33_6 hfz33_7
   try clear hfz35_0 hfz35_1 hfz35_2 hfz35_3 hfz35_4 hfz35_5 hfz35_6 hfz35_7
   try clear hfz36_0 hfz36_1 hfz36_2 hfz36_3 hfz36_4 hfz36_5 hfz36_6 hfz36_7
   try clear hfz38_0 hfz38_1 hfz38_2 hfz38_3 hfz38_4 hfz38_5 hfz38_6 hfz38_7
   try clear hfz39_0 hfz39_1 hfz39_2 hfz39_3 hfz39_4 hfz39_5 hfz39_6 hfz39_7
   try clear hfz41_0 hfz41_1 hfz41_2 hfz41_3 hfz41_4 hfz41_5 hfz41_6 hfz41_7
   try clear hfz42_0 hfz42_1 hfz42_2 hfz42_3 hfz42_4 hfz42_5 hfz42_6 hfz42_7
   try clear hfz47_0 hfz47_1 hfz47_2 hfz47_3 hfz47_4 hfz47_5 hfz47_6 hfz47_7
   try clear hfz49_0 hfz49_1 hfz49_2 hfz49_3 hfz49_4 hfz49_5 hfz49_6 hfz49_7
   try clear hfz50_0 hfz50_1 hfz50_2 hfz50_3 hfz50_4 hfz50_5 hfz50_6 hfz50_7
   try clear hfz52_0 hfz52_1 hfz52_2 hfz52_3 hfz52_4 hfz52_5 hfz52_6 hfz52_7
   try clear hfz53_0 hfz53_1 hfz53_2 hfz53_3 hfz53_4 hfz53_5 hfz53_6 hfz53_7
   try clear hfz55_0 hfz55_1 hfz55_2 hfz55_3 hfz55_4 hfz55_5 hfz55_6 hfz55_7
   try clear hfz56_0 hfz56_1 hfz56_2 hfz56_3 hfz56_4 hfz56_5 hfz56_6 hfz56_7
   try clear hfz58_0 hfz58_1 hfz58_2 hfz58_3 hfz58_4 hfz58_5 hfz58_6 hfz58_7
   try clear hfz59_0 hfz59_1 hfz59_2 hfz59_3 hfz59_4 hfz59_5 hfz59_6 hfz59_7
   try clear hfz63_0 hfz63_1 hfz63_2 hfz63_3 hfz63_4 hfz63_5 hfz63_6 hfz63_7
   try clear hfz65_0 hfz65_1 hfz65_2 hfz65_3 hfz65_4 hfz65_5 hfz65_6 hfz65_7
   try clear hfz66_0 hfz66_1 hfz66_2 hfz66_3 hfz66_4 hfz66_5 hfz66_6 hfz66_7
   try clear hfz68_0 hfz68_1 hfz68_2 hfz68_3 hfz68_4 hfz68_5 hfz68_6 hfz68_7
   try clear hfz69_0 hfz69_1 hfz69_2 hfz69_3 hfz69_4 hfz69_5 hfz69_6 hfz69_7
   try clear hfz71_0 hfz71_1 hfz71_2 hfz71_3 hfz71_4 hfz71_5 hfz71_6 hfz71_7
   try clear hfz72_0 hfz72_1 hfz72_2 hfz72_3 hfz72_4 hfz72_5 hfz72_6 hfz72_7
   try clear hfz74_0 hfz74_1 hfz74_2 hfz74_3 hfz74_4 hfz74_5 hfz74_6 hfz74_7
   try clear hfz75_0 hfz75_1 hfz75_2 hfz75_3 hfz75_4 hfz75_5 hfz75_6 hfz75_7
   try clear hfz77_0 hfz77_1 hfz77_2 hfz77_3 hfz77_4 hfz77_5 hfz77_6 hfz77_7
   try clear hfz78_0 hfz78_1 hfz78_2 hfz78_3 hfz78_4 hfz78_5 hfz78_6 hfz78_7
   try clear hfz83_0 hfz83_1 hfz83_2 hfz83_3 hfz83_4 hfz83_5 hfz83_6 hfz83_7
   try clear hfz85_0 hfz85_1 hfz85_2 hfz85_3 hfz85_4 hfz85_5 hfz85_6 hfz85_7
   try clear hfz86_0 hfz86_1 hfz86_2 hfz86_3 hfz86_4 hfz86_5 hfz86_6 hfz86_7
   try clear hfz88_0 hfz88_1 hfz88_2 hfz88_3 hfz88_4 hfz88_5 hfz88_6 hfz88_7
   try clear hfz89_0 hfz89_1 hfz89_2 hfz89_3 hfz89_4 hfz89_5 hfz89_6 hfz89_7
   try clear hfz94_0 hfz94_1 hfz94_2 hfz94_3 hfz94_4 hfz94_5 hfz94_6 hfz94_7
   try clear hfz96_0 hfz96_1 hfz96_2 hfz96_3 hfz96_4 hfz96_5 hfz96_6 hfz96_7
   try clear hfz97_0 hfz97_1 hfz97_2 hfz97_3 hfz97_4 hfz97_5 hfz97_6 hfz97_7
   try clear hfz99_0 hfz99_1 hfz99_2 hfz99_3 hfz99_4 hfz99_5 hfz99_6 hfz99_7
   obtain ⟨kq, x48_4, rfl, HA, HJ4, BK377, BK378, HB⟩ := hcut
   cases kq with
   | zero => exact absurd HA.out (by simp [laws_FnRules.j0])
   | succ kj4 =>
    have H := HA.out
    clear HA
    simp only [laws_FnRules.j0] at H
    by_cases c121 : x48_4 = true
    ·subst c121
     have H1 : (some false) = some r := by rw [if_pos rfl] at H; exact H
     clear H
     have H := H1
     clear H1
     exact absurd ((Option.some.inj H).trans HRT.out) (by decide)
    ·replace c121 := Bool.eq_false_iff.mpr c121
     subst c121
     have H1 : ((spec_DrawApplies.f kj4 l0).bind fun bt388 => ((impl_Applies.f kj4 bt388.1 bt388.2.1 bt388.2.2.1 bt388.2.2.2.1 bt388.2.2.2.2.1 bt388.2.2.2.2.2.1 bt388.2.2.2.2.2.2.1 bt388.2.2.2.2.2.2.2.1 bt388.2.2.2.2.2.2.2.2.1 bt388.2.2.2.2.2.2.2.2.2.1 bt388.2.2.2.2.2.2.2.2.2.2).bind fun t401 => (if t401 = true then ((impl_IsRule.f kj4 bt388.1 bt388.2.1 bt388.2.2.1 bt388.2.2.2.1 bt388.2.2.2.2.1 bt388.2.2.2.2.2.1 bt388.2.2.2.2.2.2.1 bt388.2.2.2.2.2.2.2.1).bind fun t402 => (if t402 = true then ((impl_IsRequest.f bt388.2.2.2.2.2.2.2.2.1 bt388.2.2.2.2.2.2.2.2.2.1 bt388.2.2.2.2.2.2.2.2.2.2).bind fun t403 => (if t403 = true then ((impl_MatchSite.f bt388.2.2.1 bt388.2.2.2.1 bt388.2.2.2.2.2.2.2.2.1 bt388.2.2.2.2.2.2.2.2.2.1).bind fun t404 => (laws_FnRules.j1 kj4 l0 (!t404) t361 t362 t363 t364 t365 t366 t367 t368 t369 t370 t371 t372 t373 t374 t375 t376 bt388.1 bt388.2.1 bt388.2.2.1 bt388.2.2.2.1 bt388.2.2.2.2.1 bt388.2.2.2.2.2.1 bt388.2.2.2.2.2.2.1 bt388.2.2.2.2.2.2.2.1)) else (laws_FnRules.j1 kj4 l0 true t361 t362 t363 t364 t365 t366 t367 t368 t369 t370 t371 t372 t373 t374 t375 t376 bt388.1 bt388.2.1 bt388.2.2.1 bt388.2.2.2.1 bt388.2.2.2.2.1 bt388.2.2.2.2.2.1 bt388.2.2.2.2.2.2.1 bt388.2.2.2.2.2.2.2.1))) else (laws_FnRules.j1 kj4 l0 true t361 t362 t363 t364 t365 t366 t367 t368 t369 t370 t371 t372 t373 t374 t375 t376 bt388.1 bt388.2.1 bt388.2.2.1 bt388.2.2.2.1 bt388.2.2.2.2.1 bt388.2.2.2.2.2.1 bt388.2.2.2.2.2.2.1 bt388.2.2.2.2.2.2.2.1))) else (laws_FnRules.j1 kj4 l0 false t361 t362 t363 t364 t365 t366 t367 t368 t369 t370 t371 t372 t373 t374 t375 t376 bt388.1 bt388.2.1 bt388.2.2.1 bt388.2.2.2.1 bt388.2.2.2.2.1 bt388.2.2.2.2.2.1 bt388.2.2.2.2.2.2.1 bt388.2.2.2.2.2.2.2.1)))) = some r := by rw [if_neg (show ¬ (false = true) by decide)] at H; exact H
     clear H
     have H := H1
     clear H1
     replace H := Option.bind_eq_some_iff.mp H
     obtain ⟨⟨t388, t389, t390, t391, t392, t393, t394, t395, t396, t397, t398⟩, A1220, H⟩ := H
     replace H : ((impl_Applies.f kj4 t388 t389 t390 t391 t392 t393 t394 t395 t396 t397 t398).bind fun t401 => (if t401 = true then ((impl_IsRule.f kj4 t388 t389 t390 t391 t392 t393 t394 t395).bind fun t402 => (if t402 = true then ((impl_IsRequest.f t396 t397 t398).bind fun t403 => (if t403 = true then ((impl_MatchSite.f t390 t391 t396 t397).bind fun t404 => (laws_FnRules.j1 kj4 l0 (!t404) t361 t362 t363 t364 t365 t366 t367 t368 t369 t370 t371 t372 t373 t374 t375 t376 t388 t389 t390 t391 t392 t393 t394 t395)) else (laws_FnRules.j1 kj4 l0 true t361 t362 t363 t364 t365 t366 t367 t368 t369 t370 t371 t372 t373 t374 t375 t376 t388 t389 t390 t391 t392 t393 t394 t395))) else (laws_FnRules.j1 kj4 l0 true t361 t362 t363 t364 t365 t366 t367 t368 t369 t370 t371 t372 t373 t374 t375 t376 t388 t389 t390 t391 t392 t393 t394 t395))) else (laws_FnRules.j1 kj4 l0 false t361 t362 t363 t364 t365 t366 t367 t368 t369 t370 t371 t372 t373 t374 t375 t376 t388 t389 t390 t391 t392 t393 t394 t395))) = some r := H
     have A122 := Aside0.mk A1220
     clear A1220
     have HC123 := Aside0.mk H
     clear H
     go_upto_region 7 with (first | ((with_reducible refine gate_callee (f := 60) rfl ?_); refine goesL_ (some 51) rfl rfl Try.func60 (by kernel_rfl) rfl #[.slice A0 l0.length c0] rfl (by (try simp only [List.map_toArray, List.map_cons, List.map_nil]); first | done | rfl | (simp only [List.length_drop, List.length_take]; rfl)) ?_; (with_reducible refine (spec_DrawApplies.calls kj4 _ _ l0 t388 t389 t390 t391 t392 t393 t394 t395 t396 t397 t398 _ ?side1 ?side2 A122.out).mono ?_); (case side1 => exact cB ((Kd.C_below HR0.out HB.out))); (case side2 => exact HC0.out); rintro e w124 ⟨rfl, hb⟩; refine ⟨_, rfl, ?_⟩; replace BK377 := am (blk_below (bB BK377.out) hb); replace BK378 := am (blk_below (bB BK378.out) hb); replace HB := am (below_step (sB HB.out) hb); (try clear hb); (try clear hb2); (try clear hk); (try clear hi)) | ((with_reducible refine gate_dst (N := 5) rfl ?_); refine box_event ?hg (N := 5) ?hd (cs := #[.int .i64 0, .int .i64 0, .int .i64 0, .int .i64 0, .int .i64 0, .int .i64 0, .int .i64 0, .int .i64 0]) (t := 35) ?hr ?_; (case hd => rfl); (case hg => rfl); (case hr => first | (go_simp; done) | (go_simp; rfl)); intro gb399 hg w125 hbox hb; have n0_ := am (blk_below (bB BK377.out) hb); have n1_ := am (blk_below (bB BK378.out) hb); have q_ := hbx_ (sB HB.out) hg hb; have n2_ := q_.1; have n3_ := am (hbox); have n4_ := q_.2; have n5_ := n4_; have n6_ := am ((by rw [hg]; exact Nat.ne_of_lt (blk_lt (g := gb377) (o := .cells #[.int .i64 t361, .int .i64 t362, .int .i64 t363, .int .i64 t364, .int .i64 t365, .int .i64 t366, .int .i64 t367, .int .i64 t368] 35 (0, 0)) (bB BK377.out)) : gb377 ≠ gb399)); have n7_ := am ((by rw [hg]; exact Nat.ne_of_gt (blk_lt (g := gb377) (o := .cells #[.int .i64 t361, .int .i64 t362, .int .i64 t363, .int .i64 t364, .int .i64 t365, .int .i64 t366, .int .i64 t367, .int .i64 t368] 35 (0, 0)) (bB BK377.out)) : gb399 ≠ gb377)); have n8_ := am ((by rw [hg]; exact Nat.ne_of_lt (blk_lt (g := gb378) (o := .cells #[.int .i64 t369, .int .i64 t370, .int .i64 t371, .int .i64 t372, .int .i64 t373, .int .i64 t374, .int .i64 t375, .int .i64 t376] 35 (0, 0)) (bB BK378.out)) : gb378 ≠ gb399)); have n9_ := am ((by rw [hg]; exact Nat.ne_of_gt (blk_lt (g := gb378) (o := .cells #[.int .i64 t369, .int .i64 t370, .int .i64 t371, .int .i64 t372, .int .i64 t373, .int .i64 t374, .int .i64 t375, .int .i64 t376] 35 (0, 0)) (bB BK378.out)) : gb399 ≠ gb378)); clear BK377; clear BK378; clear HB; have BK377 := n0_; have BK378 := n1_; have HB := n2_; have BK399 := n3_; have GW399 := n4_; have GE399 := n5_; have NB377_399 := n6_; have NB399_377 := n7_; have NB378_399 := n8_; have NB399_378 := n9_; clear n0_ n1_ n2_ n3_ n4_ n5_ n6_ n7_ n8_ n9_; clear hb hbox hg) | ((with_reducible refine gate_dst (N := 6) rfl ?_); refine box_event ?hg (N := 6) ?hd (cs := #[.int .i64 0, .int .i64 0, .int .i64 0]) (t := 86) ?hr ?_; (case hd => rfl); (case hg => rfl); (case hr => first | (go_simp; done) | (go_simp; rfl)); intro gb400 hg w126 hbox hb; have n0_ := am (blk_below (bB BK377.out) hb); have n1_ := am (blk_below (bB BK378.out) hb); have n2_ := am (blk_below (bB BK399.out) hb); have q_ := hbx_ (sB HB.out) hg hb; have n3_ := q_.1; have n4_ := am (hbox); have n5_ := q_.2; have n6_ := n5_; have n7_ := am ((by rw [hg]; exact Nat.ne_of_lt (blk_lt (g := gb377) (o := .cells #[.int .i64 t361, .int .i64 t362, .int .i64 t363, .int .i64 t364, .int .i64 t365, .int .i64 t366, .int .i64 t367, .int .i64 t368] 35 (0, 0)) (bB BK377.out)) : gb377 ≠ gb400)); have n8_ := am ((by rw [hg]; exact Nat.ne_of_gt (blk_lt (g := gb377) (o := .cells #[.int .i64 t361, .int .i64 t362, .int .i64 t363, .int .i64 t364, .int .i64 t365, .int .i64 t366, .int .i64 t367, .int .i64 t368] 35 (0, 0)) (bB BK377.out)) : gb400 ≠ gb377)); have n9_ := am ((by rw [hg]; exact Nat.ne_of_lt (blk_lt (g := gb378) (o := .cells #[.int .i64 t369, .int .i64 t370, .int .i64 t371, .int .i64 t372, .int .i64 t373, .int .i64 t374, .int .i64 t375, .int .i64 t376] 35 (0, 0)) (bB BK378.out)) : gb378 ≠ gb400)); have n10_ := am ((by rw [hg]; exact Nat.ne_of_gt (blk_lt (g := gb378) (o := .cells #[.int .i64 t369, .int .i64 t370, .int .i64 t371, .int .i64 t372, .int .i64 t373, .int .i64 t374, .int .i64 t375, .int .i64 t376] 35 (0, 0)) (bB BK378.out)) : gb400 ≠ gb378)); have n11_ := am ((by rw [hg]; exact Nat.ne_of_lt (blk_lt (g := gb399) (o := .cells #[.int .i64 0, .int .i64 0, .int .i64 0, .int .i64 0, .int .i64 0, .int .i64 0, .int .i64 0, .int .i64 0] 35 (0, 0)) (bB BK399.out)) : gb399 ≠ gb400)); have n12_ := am ((by rw [hg]; exact Nat.ne_of_gt (blk_lt (g := gb399) (o := .cells #[.int .i64 0, .int .i64 0, .int .i64 0, .int .i64 0, .int .i64 0, .int .i64 0, .int .i64 0, .int .i64 0] 35 (0, 0)) (bB BK399.out)) : gb400 ≠ gb399)); clear BK377; clear BK378; clear BK399; clear HB; have BK377 := n0_; have BK378 := n1_; have BK399 := n2_; have HB := n3_; have BK400 := n4_; have GW400 := n5_; have GE400 := n6_; have NB377_400 := n7_; have NB400_377 := n8_; have NB378_400 := n9_; have NB400_378 := n10_; have NB399_400 := n11_; have NB400_399 := n12_; clear n0_ n1_ n2_ n3_ n4_ n5_ n6_ n7_ n8_ n9_ n10_ n11_ n12_; clear hb hbox hg; have hnb127 := NB399_377.out; have hnc127 := NB377_399.out; have hnb128 := NB399_378.out; have hnc128 := NB378_399.out; have hnb129 := NB399_400.out; have hnc129 := NB400_399.out; obtain ⟨hcz130_0, hcz130_1, hcz130_2, hcz130_3, hcz130_4, hcz130_5, hcz130_6, hcz130_7, hfz130_0, hfz130_1, hfz130_2, hfz130_3, hfz130_4, hfz130_5, hfz130_6, hfz130_7⟩ := blk8 BK399.out; have hnb131 := NB400_377.out; have hnc131 := NB377_400.out; have hnb132 := NB400_378.out; have hnc132 := NB378_400.out; obtain ⟨hcz133_0, hcz133_1, hcz133_2, hfz133_0, hfz133_1, hfz133_2⟩ := blk3 BK400.out))
     (try simp only [Act.put, List.setIfInBounds_toArray, List.set_cons_zero, List.set_cons_succ])
     go_cut [74] (fun v74 wc => ∃ (kq : Nat) (x74_122 : Bool), v74 = .bool x74_122 ∧ Aside0 (laws_FnRules.j1 kq l0 x74_122 t361 t362 t363 t364 t365 t366 t367 t368 t369 t370 t371 t372 t373 t374 t375 t376 t388 t389 t390 t391 t392 t393 t394 t395 = some r) ∧ Aside0 (kq ≤ kj4) ∧ Aside0 (wc.heap[gb377]? = some (.cells #[.int .i64 t361, .int .i64 t362, .int .i64 t363, .int .i64 t364, .int .i64 t365, .int .i64 t366, .int .i64 t367, .int .i64 t368] 35 (0, 0))) ∧ Aside0 (wc.heap[gb378]? = some (.cells #[.int .i64 t369, .int .i64 t370, .int .i64 t371, .int .i64 t372, .int .i64 t373, .int .i64 t374, .int .i64 t375, .int .i64 t376] 35 (0, 0))) ∧ Aside0 (wc.heap[gb399]? = some (.cells #[.int .i64 t388, .int .i64 t389, .int .i64 t390, .int .i64 t391, .int .i64 t392, .int .i64 t393, .int .i64 t394, .int .i64 t395] 35 (0, 0))) ∧ Aside0 (wc.heap[gb400]? = some (.cells #[.int .i64 t396, .int .i64 t397, .int .i64 t398] 86 (0, 0))) ∧ Aside0 (Below w.heap.size w wc))
     case first =>
      have H := HC123.out
      clear HC123
      replace H := Option.bind_eq_some_iff.mp H
      obtain ⟨t401, A1340, H⟩ := H
      replace H : (if t401 = true then ((impl_IsRule.f kj4 t388 t389 t390 t391 t392 t393 t394 t395).bind fun t402 => (if t402 = true then ((impl_IsRequest.f t396 t397 t398).bind fun t403 => (if t403 = true then ((impl_MatchSite.f t390 t391 t396 t397).bind fun t404 => (laws_FnRules.j1 kj4 l0 (!t404) t361 t362 t363 t364 t365 t366 t367 t368 t369 t370 t371 t372 t373 t374 t375 t376 t388 t389 t390 t391 t392 t393 t394 t395)) else (laws_FnRules.j1 kj4 l0 true t361 t362 t363 t364 t365 t366 t367 t368 t369 t370 t371 t372 t373 t374 t375 t376 t388 t389 t390 t391 t392 t393 t394 t395))) else (laws_FnRules.j1 kj4 l0 true t361 t362 t363 t364 t365 t366 t367 t368 t369 t370 t371 t372 t373 t374 t375 t376 t388 t389 t390 t391 t392 t393 t394 t395))) else (laws_FnRules.j1 kj4 l0 false t361 t362 t363 t364 t365 t366 t367 t368 t369 t370 t371 t372 t373 t374 t375 t376 t388 t389 t390 t391 t392 t393 t394 t395)) = some r := H
      have A134 := Aside0.mk A1340
      clear A1340
      by_cases c135 : t401 = true
      ·subst c135
       have H1 : ((impl_IsRule.f kj4 t388 t389 t390 t391 t392 t393 t394 t395).bind fun t402 => (if t402 = true then ((impl_IsRequest.f t396 t397 t398).bind fun t403 => (if t403 = true then ((impl_MatchSite.f t390 t391 t396 t397).bind fun t404 => (laws_FnRules.j1 kj4 l0 (!t404) t361 t362 t363 t364 t365 t366 t367 t368 t369 t370 t371 t372 t373 t374 t375 t376 t388 t389 t390 t391 t392 t393 t394 t395)) else (laws_FnRules.j1 kj4 l0 true t361 t362 t363 t364 t365 t366 t367 t368 t369 t370 t371 t372 t373 t374 t375 t376 t388 t389 t390 t391 t392 t393 t394 t395))) else (laws_FnRules.j1 kj4 l0 true t361 t362 t363 t364 t365 t366 t367 t368 t369 t370 t371 t372 t373 t374 t375 t376 t388 t389 t390 t391 t392 t393 t394 t395))) = some r := by rw [if_pos rfl] at H; exact H
       clear H
       have H := H1
       clear H1
       replace H := Option.bind_eq_some_iff.mp H
       obtain ⟨t402, A1360, H⟩ := H
       replace H : (if t402 = true then ((impl_IsRequest.f t396 t397 t398).bind fun t403 => (if t403 = true then ((impl_MatchSite.f t390 t391 t396 t397).bind fun t404 => (laws_FnRules.j1 kj4 l0 (!t404) t361 t362 t363 t364 t365 t366 t367 t368 t369 t370 t371 t372 t373 t374 t375 t376 t388 t389 t390 t391 t392 t393 t394 t395)) else (laws_FnRules.j1 kj4 l0 true t361 t362 t363 t364 t365 t366 t367 t368 t369 t370 t371 t372 t373 t374 t375 t376 t388 t389 t390 t391 t392 t393 t394 t395))) else (laws_FnRules.j1 kj4 l0 true t361 t362 t363 t364 t365 t366 t367 t368 t369 t370 t371 t372 t373 t374 t375 t376 t388 t389 t390 t391 t392 t393 t394 t395)) = some r := H
       have A136 := Aside0.mk A1360
       clear A1360
       by_cases c137 : t402 = true
       ·subst c137
        have H1 : ((impl_IsRequest.f t396 t397 t398).bind fun t403 => (if t403 = true then ((impl_MatchSite.f t390 t391 t396 t397).bind fun t404 => (laws_FnRules.j1 kj4 l0 (!t404) t361 t362 t363 t364 t365 t366 t367 t368 t369 t370 t371 t372 t373 t374 t375 t376 t388 t389 t390 t391 t392 t393 t394 t395)) else (laws_FnRules.j1 kj4 l0 true t361 t362 t363 t364 t365 t366 t367 t368 t369 t370 t371 t372 t373 t374 t375 t376 t388 t389 t390 t391 t392 t393 t394 t395))) = some r := by rw [if_pos rfl] at H; exact H
        clear H
        have H := H1
        clear H1
        replace H := Option.bind_eq_some_iff.mp H
        obtain ⟨t403, A1380, H⟩ := H
        replace H : (if t403 = true then ((impl_MatchSite.f t390 t391 t396 t397).bind fun t404 => (laws_FnRules.j1 kj4 l0 (!t404) t361 t362 t363 t364 t365 t366 t367 t368 t369 t370 t371 t372 t373 t374 t375 t376 t388 t389 t390 t391 t392 t393 t394 t395)) else (laws_FnRules.j1 kj4 l0 true t361 t362 t363 t364 t365 t366 t367 t368 t369 t370 t371 t372 t373 t374 t375 t376 t388 t389 t390 t391 t392 t393 t394 t395)) = some r := H
        have A138 := Aside0.mk A1380
        clear A1380
        by_cases c139 : t403 = true
        ·subst c139
         have H1 : ((impl_MatchSite.f t390 t391 t396 t397).bind fun t404 => (laws_FnRules.j1 kj4 l0 (!t404) t361 t362 t363 t364 t365 t366 t367 t368 t369 t370 t371 t372 t373 t374 t375 t376 t388 t389 t390 t391 t392 t393 t394 t395)) = some r := by rw [if_pos rfl] at H; exact H
         clear H
         have H := H1
         clear H1
         replace H := Option.bind_eq_some_iff.mp H
         obtain ⟨t404, A1400, H⟩ := H
         replace H : (laws_FnRules.j1 kj4 l0 (!t404) t361 t362 t363 t364 t365 t366 t367 t368 t369 t370 t371 t372 t373 t374 t375 t376 t388 t389 t390 t391 t392 t393 t394 t395) = some r := H
         have A140 := Aside0.mk A1400
         clear A1400
         have H' := Aside0.mk H
         clear H
         have hnb141 := NB399_377.out
         have hnc141 := NB377_399.out
         have hnb142 := NB399_378.out
         have hnc142 := NB378_399.out
         have hnb143 := NB399_400.out
         have hnc143 := NB400_399.out
         have hcz144_0 : w126.cell? ⟨gb399, 0, none⟩ = some (.int .i64 0) := (blk_cell BK399.out 0).trans rfl
         have hcz144_1 : w126.cell? ⟨gb399, 1, none⟩ = some (.int .i64 0) := (blk_cell BK399.out 1).trans rfl
         have hcz144_2 : w126.cell? ⟨gb399, 2, none⟩ = some (.int .i64 0) := (blk_cell BK399.out 2).trans rfl
         have hcz144_3 : w126.cell? ⟨gb399, 3, none⟩ = some (.int .i64 0) := (blk_cell BK399.out 3).trans rfl
         have hcz144_4 : w126.cell? ⟨gb399, 4, none⟩ = some (.int .i64 0) := (blk_cell BK399.out 4).trans rfl
         have hcz144_5 : w126.cell? ⟨gb399, 5, none⟩ = some (.int .i64 0) := (blk_cell BK399.out 5).trans rfl
         have hcz144_6 : w126.cell? ⟨gb399, 6, none⟩ = some (.int .i64 0) := (blk_cell BK399.out 6).trans rfl
         have hcz144_7 : w126.cell? ⟨gb399, 7, none⟩ = some (.int .i64 0) := (blk_cell BK399.out 7).trans rfl
         have hfz144_0 := blk_frozen BK399.out 0
         have hfz144_1 := blk_frozen BK399.out 1
         have hfz144_2 := blk_frozen BK399.out 2
         have hfz144_3 := blk_frozen BK399.out 3
         have hfz144_4 := blk_frozen BK399.out 4
         have hfz144_5 := blk_frozen BK399.out 5
         have hfz144_6 := blk_frozen BK399.out 6
         have hfz144_7 := blk_frozen BK399.out 7
         have hnb145 := NB400_377.out
         have hnc145 := NB377_400.out
         have hnb146 := NB400_378.out
         have hnc146 := NB378_400.out
         have hcz147_0 : w126.cell? ⟨gb400, 0, none⟩ = some (.int .i64 0) := (blk_cell BK400.out 0).trans rfl
         have hcz147_1 : w126.cell? ⟨gb400, 1, none⟩ = some (.int .i64 0) := (blk_cell BK400.out 1).trans rfl
         have hcz147_2 : w126.cell? ⟨gb400, 2, none⟩ = some (.int .i64 0) := (blk_cell BK400.out 2).trans rfl
         have hfz147_0 := blk_frozen BK400.out 0
         have hfz147_1 := blk_frozen BK400.out 1
         have hfz147_2 := blk_frozen BK400.out 2
         go_wp2_with (first | ((with_reducible refine gate_callee (f := 61) rfl ?_); refine goesL_ (some 56) rfl rfl Try.func61 (by kernel_rfl) rfl #[.agg #[.int .i64 t388, .int .i64 t389, .int .i64 t390, .int .i64 t391, .int .i64 t392, .int .i64 t393, .int .i64 t394, .int .i64 t395], .agg #[.int .i64 t396, .int .i64 t397, .int .i64 t398]] rfl (by (try simp only [List.map_toArray, List.map_cons, List.map_nil]); first | done | rfl | (simp only [List.length_drop, List.length_take]; rfl)) ?_; (with_reducible refine (impl_Applies.calls kj4 t388 t389 t390 t391 t392 t393 t394 t395 t396 t397 t398 true _ A134.out).mono ?_); rintro e w148 ⟨rfl, hb⟩; refine ⟨_, rfl, ?_⟩; replace BK377 := am (blk_below (g := gb377) (o := .cells #[.int .i64 t361, .int .i64 t362, .int .i64 t363, .int .i64 t364, .int .i64 t365, .int .i64 t366, .int .i64 t367, .int .i64 t368] 35 (0, 0)) (by refine bB ?_; refine blk_far ?_ NB377_400.out _; refine bB ?_; refine blk_far ?_ NB377_400.out _; refine bB ?_; refine blk_far ?_ NB377_400.out _; refine bB ?_; refine blk_far ?_ NB377_399.out _; refine bB ?_; refine blk_far ?_ NB377_399.out _; refine bB ?_; refine blk_far ?_ NB377_399.out _; refine bB ?_; refine blk_far ?_ NB377_399.out _; refine bB ?_; refine blk_far ?_ NB377_399.out _; refine bB ?_; refine blk_far ?_ NB377_399.out _; refine bB ?_; refine blk_far ?_ NB377_399.out _; refine bB ?_; refine blk_far ?_ NB377_399.out _; refine bB ?_; exact BK377.out) hb); replace BK378 := am (blk_below (g := gb378) (o := .cells #[.int .i64 t369, .int .i64 t370, .int .i64 t371, .int .i64 t372, .int .i64 t373, .int .i64 t374, .int .i64 t375, .int .i64 t376] 35 (0, 0)) (by refine bB ?_; refine blk_far ?_ NB378_400.out _; refine bB ?_; refine blk_far ?_ NB378_400.out _; refine bB ?_; refine blk_far ?_ NB378_400.out _; refine bB ?_; refine blk_far ?_ NB378_399.out _; refine bB ?_; refine blk_far ?_ NB378_399.out _; refine bB ?_; refine blk_far ?_ NB378_399.out _; refine bB ?_; refine blk_far ?_ NB378_399.out _; refine bB ?_; refine blk_far ?_ NB378_399.out _; refine bB ?_; refine blk_far ?_ NB378_399.out _; refine bB ?_; refine blk_far ?_ NB378_399.out _; refine bB ?_; refine blk_far ?_ NB378_399.out _; refine bB ?_; exact BK378.out) hb); replace BK399 := am (blk_below (g := gb399) (o := .cells #[.int .i64 t388, .int .i64 t389, .int .i64 t390, .int .i64 t391, .int .i64 t392, .int .i64 t393, .int .i64 t394, .int .i64 t395] 35 (0, 0)) (by refine bB ?_; refine blk_far ?_ NB399_400.out _; refine bB ?_; refine blk_far ?_ NB399_400.out _; refine bB ?_; refine blk_far ?_ NB399_400.out _; refine bB ?_; refine blk_put (cs := #[.int .i64 t388, .int .i64 t389, .int .i64 t390, .int .i64 t391, .int .i64 t392, .int .i64 t393, .int .i64 t394, .int .i64 0]) ?_ 7 _ rfl; refine bB ?_; refine blk_put (cs := #[.int .i64 t388, .int .i64 t389, .int .i64 t390, .int .i64 t391, .int .i64 t392, .int .i64 t393, .int .i64 0, .int .i64 0]) ?_ 6 _ rfl; refine bB ?_; refine blk_put (cs := #[.int .i64 t388, .int .i64 t389, .int .i64 t390, .int .i64 t391, .int .i64 t392, .int .i64 0, .int .i64 0, .int .i64 0]) ?_ 5 _ rfl; refine bB ?_; refine blk_put (cs := #[.int .i64 t388, .int .i64 t389, .int .i64 t390, .int .i64 t391, .int .i64 0, .int .i64 0, .int .i64 0, .int .i64 0]) ?_ 4 _ rfl; refine bB ?_; refine blk_put (cs := #[.int .i64 t388, .int .i64 t389, .int .i64 t390, .int .i64 0, .int .i64 0, .int .i64 0, .int .i64 0, .int .i64 0]) ?_ 3 _ rfl; refine bB ?_; refine blk_put (cs := #[.int .i64 t388, .int .i64 t389, .int .i64 0, .int .i64 0, .int .i64 0, .int .i64 0, .int .i64 0, .int .i64 0]) ?_ 2 _ rfl; refine bB ?_; refine blk_put (cs := #[.int .i64 t388, .int .i64 0, .int .i64 0, .int .i64 0, .int .i64 0, .int .i64 0, .int .i64 0, .int .i64 0]) ?_ 1 _ rfl; refine bB ?_; refine blk_put (cs := #[.int .i64 0, .int .i64 0, .int .i64 0, .int .i64 0, .int .i64 0, .int .i64 0, .int .i64 0, .int .i64 0]) ?_ 0 _ rfl; refine bB ?_; exact BK399.out) hb); replace BK400 := am (blk_below (g := gb400) (o := .cells #[.int .i64 t396, .int .i64 t397, .int .i64 t398] 86 (0, 0)) (by refine bB ?_; refine blk_put (cs := #[.int .i64 t396, .int .i64 t397, .int .i64 0]) ?_ 2 _ rfl; refine bB ?_; refine blk_put (cs := #[.int .i64 t396, .int .i64 0, .int .i64 0]) ?_ 1 _ rfl; refine bB ?_; refine blk_put (cs := #[.int .i64 0, .int .i64 0, .int .i64 0]) ?_ 0 _ rfl; refine bB ?_; refine blk_far ?_ NB400_399.out _; refine bB ?_; refine blk_far ?_ NB400_399.out _; refine bB ?_; refine blk_far ?_ NB400_399.out _; refine bB ?_; refine blk_far ?_ NB400_399.out _; refine bB ?_; refine blk_far ?_ NB400_399.out _; refine bB ?_; refine blk_far ?_ NB400_399.out _; refine bB ?_; refine blk_far ?_ NB400_399.out _; refine bB ?_; refine blk_far ?_ NB400_399.out _; refine bB ?_; exact BK400.out) hb); replace HB := am (below_step (sB HB.out) hb); (try clear hb); (try clear hb2); (try clear hk); (try clear hi); obtain ⟨hcz149_0, hcz149_1, hcz149_2, hcz149_3, hcz149_4, hcz149_5, hcz149_6, hcz149_7, hfz149_0, hfz149_1, hfz149_2, hfz149_3, hfz149_4, hfz149_5, hfz149_6, hfz149_7⟩ := blk8 BK399.out) | (go_at_call 62; (with_reducible refine (impl_IsRule.calls kj4 t388 t389 t390 t391 t392 t393 t394 t395 true _ A136.out).mono ?_); rintro e w150 ⟨rfl, hb⟩; replace BK377 := am (blk_below (bB BK377.out) hb); replace BK378 := am (blk_below (bB BK378.out) hb); replace BK399 := am (blk_below (bB BK399.out) hb); replace BK400 := am (blk_below (bB BK400.out) hb); replace HB := am (below_step (sB HB.out) hb); (try clear hb); (try clear hb2); (try clear hk); (try clear hi); obtain ⟨hcz151_0, hcz151_1, hcz151_2, hfz151_0, hfz151_1, hfz151_2⟩ := blk3 BK400.out) | (go_at_call 63; (with_reducible refine (impl_IsRequest.calls t396 t397 t398 true _ A138.out).mono ?_); rintro e w152 ⟨rfl, hb⟩; replace BK377 := am (blk_below (bB BK377.out) hb); replace BK378 := am (blk_below (bB BK378.out) hb); replace BK399 := am (blk_below (bB BK399.out) hb); replace BK400 := am (blk_below (bB BK400.out) hb); replace HB := am (below_step (sB HB.out) hb); (try clear hb); (try clear hb2); (try clear hk); (try clear hi); obtain ⟨hcz153_0, hcz153_1, hcz153_2, hcz153_3, hcz153_4, hcz153_5, hcz153_6, hcz153_7, hfz153_0, hfz153_1, hfz153_2, hfz153_3, hfz153_4, hfz153_5, hfz153_6, hfz153_7⟩ := blk8 BK399.out; obtain ⟨hcz154_0, hcz154_1, hcz154_2, hfz154_0, hfz154_1, hfz154_2⟩ := blk3 BK400.out) | (go_at_call 48; (with_reducible refine (impl_MatchSite.calls t390 t391 t396 t397 t404 _ A140.out).mono ?_); rintro e w155 ⟨rfl, hb⟩; replace BK377 := am (blk_below (bB BK377.out) hb); replace BK378 := am (blk_below (bB BK378.out) hb); replace BK399 := am (blk_below (bB BK399.out) hb); replace BK400 := am (blk_below (bB BK400.out) hb); replace HB := am (below_step (sB HB.out) hb); (try clear hb); (try clear hb2); (try clear hk); (try clear hi)))
         go_meet
         case rel => exact ⟨_, (!t404), (by first | rfl | (simp; done) | (simp [*]; done)), H', ⟨by have := HJ4.out; first | omega | exact Nat.le_refl _⟩, ⟨bB BK377.out⟩, ⟨bB BK378.out⟩, ⟨bB BK399.out⟩, ⟨bB BK400.out⟩, ⟨sB HB.out⟩⟩
        ·replace c139 := Bool.eq_false_iff.mpr c139
         subst c139
         have H1 : (laws_FnRules.j1 kj4 l0 true t361 t362 t363 t364 t365 t366 t367 t368 t369 t370 t371 t372 t373 t374 t375 t376 t388 t389 t390 t391 t392 t393 t394 t395) = some r := by rw [if_neg (show ¬ (false = true) by decide)] at H; exact H
         clear H
         have H := H1
         clear H1
         have H' := Aside0.mk H
         clear H
         have hnb156 := NB399_377.out
         have hnc156 := NB377_399.out
         have hnb157 := NB399_378.out
         have hnc157 := NB378_399.out
         have hnb158 := NB399_400.out
         have hnc158 := NB400_399.out
         have hcz159_0 : w126.cell? ⟨gb399, 0, none⟩ = some (.int .i64 0) := (blk_cell BK399.out 0).trans rfl
         have hcz159_1 : w126.cell? ⟨gb399, 1, none⟩ = some (.int .i64 0) := (blk_cell BK399.out 1).trans rfl
         have hcz159_2 : w126.cell? ⟨gb399, 2, none⟩ = some (.int .i64 0) := (blk_cell BK399.out 2).trans rfl
         have hcz159_3 : w126.cell? ⟨gb399, 3, none⟩ = some (.int .i64 0) := (blk_cell BK399.out 3).trans rfl
         have hcz159_4 : w126.cell? ⟨gb399, 4, none⟩ = some (.int .i64 0) := (blk_cell BK399.out 4).trans rfl
         have hcz159_5 : w126.cell? ⟨gb399, 5, none⟩ = some (.int .i64 0) := (blk_cell BK399.out 5).trans rfl
         have hcz159_6 : w126.cell? ⟨gb399, 6, none⟩ = some (.int .i64 0) := (blk_cell BK399.out 6).trans rfl
         have hcz159_7 : w126.cell? ⟨gb399, 7, none⟩ = some (.int .i64 0) := (blk_cell BK399.out 7).trans rfl
         have hfz159_0 := blk_frozen BK399.out 0
         have hfz159_1 := blk_frozen BK399.out 1
         have hfz159_2 := blk_frozen BK399.out 2
         have hfz159_3 := blk_frozen BK399.out 3
         have hfz159_4 := blk_frozen BK399.out 4
         have hfz159_5 := blk_frozen BK399.out 5
         have hfz159_6 := blk_frozen BK399.out 6
         have hfz159_7 := blk_frozen BK399.out 7
         have hnb160 := NB400_377.out
         have hnc160 := NB377_400.out
         have hnb161 := NB400_378.out
         have hnc161 := NB378_400.out
         have hcz162_0 : w126.cell? ⟨gb400, 0, none⟩ = some (.int .i64 0) := (blk_cell BK400.out 0).trans rfl
         have hcz162_1 : w126.cell? ⟨gb400, 1, none⟩ = some (.int .i64 0) := (blk_cell BK400.out 1).trans rfl
         have hcz162_2 : w126.cell? ⟨gb400, 2, none⟩ = some (.int .i64 0) := (blk_cell BK400.out 2).trans rfl
         have hfz162_0 := blk_frozen BK400.out 0
         have hfz162_1 := blk_frozen BK400.out 1
         have hfz162_2 := blk_frozen BK400.out 2
         go_wp2_with (first | ((with_reducible refine gate_callee (f := 61) rfl ?_); refine goesL_ (some 56) rfl rfl Try.func61 (by kernel_rfl) rfl #[.agg #[.int .i64 t388, .int .i64 t389, .int .i64 t390, .int .i64 t391, .int .i64 t392, .int .i64 t393, .int .i64 t394, .int .i64 t395], .agg #[.int .i64 t396, .int .i64 t397, .int .i64 t398]] rfl (by (try simp only [List.map_toArray, List.map_cons, List.map_nil]); first | done | rfl | (simp only [List.length_drop, List.length_take]; rfl)) ?_; (with_reducible refine (impl_Applies.calls kj4 t388 t389 t390 t391 t392 t393 t394 t395 t396 t397 t398 true _ A134.out).mono ?_); rintro e w163 ⟨rfl, hb⟩; refine ⟨_, rfl, ?_⟩; replace BK377 := am (blk_below (g := gb377) (o := .cells #[.int .i64 t361, .int .i64 t362, .int .i64 t363, .int .i64 t364, .int .i64 t365, .int .i64 t366, .int .i64 t367, .int .i64 t368] 35 (0, 0)) (by refine bB ?_; refine blk_far ?_ NB377_400.out _; refine bB ?_; refine blk_far ?_ NB377_400.out _; refine bB ?_; refine blk_far ?_ NB377_400.out _; refine bB ?_; refine blk_far ?_ NB377_399.out _; refine bB ?_; refine blk_far ?_ NB377_399.out _; refine bB ?_; refine blk_far ?_ NB377_399.out _; refine bB ?_; refine blk_far ?_ NB377_399.out _; refine bB ?_; refine blk_far ?_ NB377_399.out _; refine bB ?_; refine blk_far ?_ NB377_399.out _; refine bB ?_; refine blk_far ?_ NB377_399.out _; refine bB ?_; refine blk_far ?_ NB377_399.out _; refine bB ?_; exact BK377.out) hb); replace BK378 := am (blk_below (g := gb378) (o := .cells #[.int .i64 t369, .int .i64 t370, .int .i64 t371, .int .i64 t372, .int .i64 t373, .int .i64 t374, .int .i64 t375, .int .i64 t376] 35 (0, 0)) (by refine bB ?_; refine blk_far ?_ NB378_400.out _; refine bB ?_; refine blk_far ?_ NB378_400.out _; refine bB ?_; refine blk_far ?_ NB378_400.out _; refine bB ?_; refine blk_far ?_ NB378_399.out _; refine bB ?_; refine blk_far ?_ NB378_399.out _; refine bB ?_; refine blk_far ?_ NB378_399.out _; refine bB ?_; refine blk_far ?_ NB378_399.out _; refine bB ?_; refine blk_far ?_ NB378_399.out _; refine bB ?_; refine blk_far ?_ NB378_399.out _; refine bB ?_; refine blk_far ?_ NB378_399.out _; refine bB ?_; refine blk_far ?_ NB378_399.out _; refine bB ?_; exact BK378.out) hb); replace BK399 := am (blk_below (g := gb399) (o := .cells #[.int .i64 t388, .int .i64 t389, .int .i64 t390, .int .i64 t391, .int .i64 t392, .int .i64 t393, .int .i64 t394, .int .i64 t395] 35 (0, 0)) (by refine bB ?_; refine blk_far ?_ NB399_400.out _; refine bB ?_; refine blk_far ?_ NB399_400.out _; refine bB ?_; refine blk_far ?_ NB399_400.out _; refine bB ?_; refine blk_put (cs := #[.int .i64 t388, .int .i64 t389, .int .i64 t390, .int .i64 t391, .int .i64 t392, .int .i64 t393, .int .i64 t394, .int .i64 0]) ?_ 7 _ rfl; refine bB ?_; refine blk_put (cs := #[.int .i64 t388, .int .i64 t389, .int .i64 t390, .int .i64 t391, .int .i64 t392, .int .i64 t393, .int .i64 0, .int .i64 0]) ?_ 6 _ rfl; refine bB ?_; refine blk_put (cs := #[.int .i64 t388, .int .i64 t389, .int .i64 t390, .int .i64 t391, .int .i64 t392, .int .i64 0, .int .i64 0, .int .i64 0]) ?_ 5 _ rfl; refine bB ?_; refine blk_put (cs := #[.int .i64 t388, .int .i64 t389, .int .i64 t390, .int .i64 t391, .int .i64 0, .int .i64 0, .int .i64 0, .int .i64 0]) ?_ 4 _ rfl; refine bB ?_; refine blk_put (cs := #[.int .i64 t388, .int .i64 t389, .int .i64 t390, .int .i64 0, .int .i64 0, .int .i64 0, .int .i64 0, .int .i64 0]) ?_ 3 _ rfl; refine bB ?_; refine blk_put (cs := #[.int .i64 t388, .int .i64 t389, .int .i64 0, .int .i64 0, .int .i64 0, .int .i64 0, .int .i64 0, .int .i64 0]) ?_ 2 _ rfl; refine bB ?_; refine blk_put (cs := #[.int .i64 t388, .int .i64 0, .int .i64 0, .int .i64 0, .int .i64 0, .int .i64 0, .int .i64 0, .int .i64 0]) ?_ 1 _ rfl; refine bB ?_; refine blk_put (cs := #[.int .i64 0, .int .i64 0, .int .i64 0, .int .i64 0, .int .i64 0, .int .i64 0, .int .i64 0, .int .i64 0]) ?_ 0 _ rfl; refine bB ?_; exact BK399.out) hb); replace BK400 := am (blk_below (g := gb400) (o := .cells #[.int .i64 t396, .int .i64 t397, .int .i64 t398] 86 (0, 0)) (by refine bB ?_; refine blk_put (cs := #[.int .i64 t396, .int .i64 t397, .int .i64 0]) ?_ 2 _ rfl; refine bB ?_; refine blk_put (cs := #[.int .i64 t396, .int .i64 0, .int .i64 0]) ?_ 1 _ rfl; refine bB ?_; refine blk_put (cs := #[.int .i64 0, .int .i64 0, .int .i64 0]) ?_ 0 _ rfl; refine bB ?_; refine blk_far ?_ NB400_399.out _; refine bB ?_; refine blk_far ?_ NB400_399.out _; refine bB ?_; refine blk_far ?_ NB400_399.out _; refine bB ?_; refine blk_far ?_ NB400_399.out _; refine bB ?_; refine blk_far ?_ NB400_399.out _; refine bB ?_; refine blk_far ?_ NB400_399.out _; refine bB ?_; refine blk_far ?_ NB400_399.out _; refine bB ?_; refine blk_far ?_ NB400_399.out _; refine bB ?_; exact BK400.out) hb); replace HB := am (below_step (sB HB.out) hb); (try clear hb); (try clear hb2); (try clear hk); (try clear hi); obtain ⟨hcz164_0, hcz164_1, hcz164_2, hcz164_3, hcz164_4, hcz164_5, hcz164_6, hcz164_7, hfz164_0, hfz164_1, hfz164_2, hfz164_3, hfz164_4, hfz164_5, hfz164_6, hfz164_7⟩ := blk8 BK399.out) | (go_at_call 62; (with_reducible refine (impl_IsRule.calls kj4 t388 t389 t390 t391 t392 t393 t394 t395 true _ A136.out).mono ?_); rintro e w165 ⟨rfl, hb⟩; replace BK377 := am (blk_below (bB BK377.out) hb); replace BK378 := am (blk_below (bB BK378.out) hb); replace BK399 := am (blk_below (bB BK399.out) hb); replace BK400 := am (blk_below (bB BK400.out) hb); replace HB := am (below_step (sB HB.out) hb); (try clear hb); (try clear hb2); (try clear hk); (try clear hi); obtain ⟨hcz166_0, hcz166_1, hcz166_2, hfz166_0, hfz166_1, hfz166_2⟩ := blk3 BK400.out) | (go_at_call 63; (with_reducible refine (impl_IsRequest.calls t396 t397 t398 false _ A138.out).mono ?_); rintro e w167 ⟨rfl, hb⟩; replace BK377 := am (blk_below (bB BK377.out) hb); replace BK378 := am (blk_below (bB BK378.out) hb); replace BK399 := am (blk_below (bB BK399.out) hb); replace BK400 := am (blk_below (bB BK400.out) hb); replace HB := am (below_step (sB HB.out) hb); (try clear hb); (try clear hb2); (try clear hk); (try clear hi)))
         go_meet
         case rel => exact ⟨_, (true), (by first | rfl | (simp; done) | (simp [*]; done)), H', ⟨by have := HJ4.out; first | omega | exact Nat.le_refl _⟩, ⟨bB BK377.out⟩, ⟨bB BK378.out⟩, ⟨bB BK399.out⟩, ⟨bB BK400.out⟩, ⟨sB HB.out⟩⟩
       ·replace c137 := Bool.eq_false_iff.mpr c137
        subst c137
        have H1 : (laws_FnRules.j1 kj4 l0 true t361 t362 t363 t364 t365 t366 t367 t368 t369 t370 t371 t372 t373 t374 t375 t376 t388 t389 t390 t391 t392 t393 t394 t395) = some r := by rw [if_neg (show ¬ (false = true) by decide)] at H; exact H
        clear H
        have H := H1
        clear H1
        have H' := Aside0.mk H
        clear H
        have hnb168 := NB399_377.out
        have hnc168 := NB377_399.out
        have hnb169 := NB399_378.out
        have hnc169 := NB378_399.out
        have hnb170 := NB399_400.out
        have hnc170 := NB400_399.out
        have hcz171_0 : w126.cell? ⟨gb399, 0, none⟩ = some (.int .i64 0) := (blk_cell BK399.out 0).trans rfl
        have hcz171_1 : w126.cell? ⟨gb399, 1, none⟩ = some (.int .i64 0) := (blk_cell BK399.out 1).trans rfl
        have hcz171_2 : w126.cell? ⟨gb399, 2, none⟩ = some (.int .i64 0) := (blk_cell BK399.out 2).trans rfl
        have hcz171_3 : w126.cell? ⟨gb399, 3, none⟩ = some (.int .i64 0) := (blk_cell BK399.out 3).trans rfl
        have hcz171_4 : w126.cell? ⟨gb399, 4, none⟩ = some (.int .i64 0) := (blk_cell BK399.out 4).trans rfl
        have hcz171_5 : w126.cell? ⟨gb399, 5, none⟩ = some (.int .i64 0) := (blk_cell BK399.out 5).trans rfl
        have hcz171_6 : w126.cell? ⟨gb399, 6, none⟩ = some (.int .i64 0) := (blk_cell BK399.out 6).trans rfl
        have hcz171_7 : w126.cell? ⟨gb399, 7, none⟩ = some (.int .i64 0) := (blk_cell BK399.out 7).trans rfl
        have hfz171_0 := blk_frozen BK399.out 0
        have hfz171_1 := blk_frozen BK399.out 1
        have hfz171_2 := blk_frozen BK399.out 2
        have hfz171_3 := blk_frozen BK399.out 3
        have hfz171_4 := blk_frozen BK399.out 4
        have hfz171_5 := blk_frozen BK399.out 5
        have hfz171_6 := blk_frozen BK399.out 6
        have hfz171_7 := blk_frozen BK399.out 7
        have hnb172 := NB400_377.out
        have hnc172 := NB377_400.out
        have hnb173 := NB400_378.out
        have hnc173 := NB378_400.out
        have hcz174_0 : w126.cell? ⟨gb400, 0, none⟩ = some (.int .i64 0) := (blk_cell BK400.out 0).trans rfl
        have hcz174_1 : w126.cell? ⟨gb400, 1, none⟩ = some (.int .i64 0) := (blk_cell BK400.out 1).trans rfl
        have hcz174_2 : w126.cell? ⟨gb400, 2, none⟩ = some (.int .i64 0) := (blk_cell BK400.out 2).trans rfl
        have hfz174_0 := blk_frozen BK400.out 0
        have hfz174_1 := blk_frozen BK400.out 1
        have hfz174_2 := blk_frozen BK400.out 2
        go_wp2_with (first | ((with_reducible refine gate_callee (f := 61) rfl ?_); refine goesL_ (some 56) rfl rfl Try.func61 (by kernel_rfl) rfl #[.agg #[.int .i64 t388, .int .i64 t389, .int .i64 t390, .int .i64 t391, .int .i64 t392, .int .i64 t393, .int .i64 t394, .int .i64 t395], .agg #[.int .i64 t396, .int .i64 t397, .int .i64 t398]] rfl (by (try simp only [List.map_toArray, List.map_cons, List.map_nil]); first | done | rfl | (simp only [List.length_drop, List.length_take]; rfl)) ?_; (with_reducible refine (impl_Applies.calls kj4 t388 t389 t390 t391 t392 t393 t394 t395 t396 t397 t398 true _ A134.out).mono ?_); rintro e w175 ⟨rfl, hb⟩; refine ⟨_, rfl, ?_⟩; replace BK377 := am (blk_below (g := gb377) (o := .cells #[.int .i64 t361, .int .i64 t362, .int .i64 t363, .int .i64 t364, .int .i64 t365, .int .i64 t366, .int .i64 t367, .int .i64 t368] 35 (0, 0)) (by refine bB ?_; refine blk_far ?_ NB377_400.out _; refine bB ?_; refine blk_far ?_ NB377_400.out _; refine bB ?_; refine blk_far ?_ NB377_400.out _; refine bB ?_; refine blk_far ?_ NB377_399.out _; refine bB ?_; refine blk_far ?_ NB377_399.out _; refine bB ?_; refine blk_far ?_ NB377_399.out _; refine bB ?_; refine blk_far ?_ NB377_399.out _; refine bB ?_; refine blk_far ?_ NB377_399.out _; refine bB ?_; refine blk_far ?_ NB377_399.out _; refine bB ?_; refine blk_far ?_ NB377_399.out _; refine bB ?_; refine blk_far ?_ NB377_399.out _; refine bB ?_; exact BK377.out) hb); replace BK378 := am (blk_below (g := gb378) (o := .cells #[.int .i64 t369, .int .i64 t370, .int .i64 t371, .int .i64 t372, .int .i64 t373, .int .i64 t374, .int .i64 t375, .int .i64 t376] 35 (0, 0)) (by refine bB ?_; refine blk_far ?_ NB378_400.out _; refine bB ?_; refine blk_far ?_ NB378_400.out _; refine bB ?_; refine blk_far ?_ NB378_400.out _; refine bB ?_; refine blk_far ?_ NB378_399.out _; refine bB ?_; refine blk_far ?_ NB378_399.out _; refine bB ?_; refine blk_far ?_ NB378_399.out _; refine bB ?_; refine blk_far ?_ NB378_399.out _; refine bB ?_; refine blk_far ?_ NB378_399.out _; refine bB ?_; refine blk_far ?_ NB378_399.out _; refine bB ?_; refine blk_far ?_ NB378_399.out _; refine bB ?_; refine blk_far ?_ NB378_399.out _; refine bB ?_; exact BK378.out) hb); replace BK399 := am (blk_below (g := gb399) (o := .cells #[.int .i64 t388, .int .i64 t389, .int .i64 t390, .int .i64 t391, .int .i64 t392, .int .i64 t393, .int .i64 t394, .int .i64 t395] 35 (0, 0)) (by refine bB ?_; refine blk_far ?_ NB399_400.out _; refine bB ?_; refine blk_far ?_ NB399_400.out _; refine bB ?_; refine blk_far ?_ NB399_400.out _; refine bB ?_; refine blk_put (cs := #[.int .i64 t388, .int .i64 t389, .int .i64 t390, .int .i64 t391, .int .i64 t392, .int .i64 t393, .int .i64 t394, .int .i64 0]) ?_ 7 _ rfl; refine bB ?_; refine blk_put (cs := #[.int .i64 t388, .int .i64 t389, .int .i64 t390, .int .i64 t391, .int .i64 t392, .int .i64 t393, .int .i64 0, .int .i64 0]) ?_ 6 _ rfl; refine bB ?_; refine blk_put (cs := #[.int .i64 t388, .int .i64 t389, .int .i64 t390, .int .i64 t391, .int .i64 t392, .int .i64 0, .int .i64 0, .int .i64 0]) ?_ 5 _ rfl; refine bB ?_; refine blk_put (cs := #[.int .i64 t388, .int .i64 t389, .int .i64 t390, .int .i64 t391, .int .i64 0, .int .i64 0, .int .i64 0, .int .i64 0]) ?_ 4 _ rfl; refine bB ?_; refine blk_put (cs := #[.int .i64 t388, .int .i64 t389, .int .i64 t390, .int .i64 0, .int .i64 0, .int .i64 0, .int .i64 0, .int .i64 0]) ?_ 3 _ rfl; refine bB ?_; refine blk_put (cs := #[.int .i64 t388, .int .i64 t389, .int .i64 0, .int .i64 0, .int .i64 0, .int .i64 0, .int .i64 0, .int .i64 0]) ?_ 2 _ rfl; refine bB ?_; refine blk_put (cs := #[.int .i64 t388, .int .i64 0, .int .i64 0, .int .i64 0, .int .i64 0, .int .i64 0, .int .i64 0, .int .i64 0]) ?_ 1 _ rfl; refine bB ?_; refine blk_put (cs := #[.int .i64 0, .int .i64 0, .int .i64 0, .int .i64 0, .int .i64 0, .int .i64 0, .int .i64 0, .int .i64 0]) ?_ 0 _ rfl; refine bB ?_; exact BK399.out) hb); replace BK400 := am (blk_below (g := gb400) (o := .cells #[.int .i64 t396, .int .i64 t397, .int .i64 t398] 86 (0, 0)) (by refine bB ?_; refine blk_put (cs := #[.int .i64 t396, .int .i64 t397, .int .i64 0]) ?_ 2 _ rfl; refine bB ?_; refine blk_put (cs := #[.int .i64 t396, .int .i64 0, .int .i64 0]) ?_ 1 _ rfl; refine bB ?_; refine blk_put (cs := #[.int .i64 0, .int .i64 0, .int .i64 0]) ?_ 0 _ rfl; refine bB ?_; refine blk_far ?_ NB400_399.out _; refine bB ?_; refine blk_far ?_ NB400_399.out _; refine bB ?_; refine blk_far ?_ NB400_399.out _; refine bB ?_; refine blk_far ?_ NB400_399.out _; refine bB ?_; refine blk_far ?_ NB400_399.out _; refine bB ?_; refine blk_far ?_ NB400_399.out _; refine bB ?_; refine blk_far ?_ NB400_399.out _; refine bB ?_; refine blk_far ?_ NB400_399.out _; refine bB ?_; exact BK400.out) hb); replace HB := am (below_step (sB HB.out) hb); (try clear hb); (try clear hb2); (try clear hk); (try clear hi); obtain ⟨hcz176_0, hcz176_1, hcz176_2, hcz176_3, hcz176_4, hcz176_5, hcz176_6, hcz176_7, hfz176_0, hfz176_1, hfz176_2, hfz176_3, hfz176_4, hfz176_5, hfz176_6, hfz176_7⟩ := blk8 BK399.out) | (go_at_call 62; (with_reducible refine (impl_IsRule.calls kj4 t388 t389 t390 t391 t392 t393 t394 t395 false _ A136.out).mono ?_); rintro e w177 ⟨rfl, hb⟩; replace BK377 := am (blk_below (bB BK377.out) hb); replace BK378 := am (blk_below (bB BK378.out) hb); replace BK399 := am (blk_below (bB BK399.out) hb); replace BK400 := am (blk_below (bB BK400.out) hb); replace HB := am (below_step (sB HB.out) hb); (try clear hb); (try clear hb2); (try clear hk); (try clear hi)))
        go_meet
        case rel => exact ⟨_, (true), (by first | rfl | (simp; done) | (simp [*]; done)), H', ⟨by have := HJ4.out; first | omega | exact Nat.le_refl _⟩, ⟨bB BK377.out⟩, ⟨bB BK378.out⟩, ⟨bB BK399.out⟩, ⟨bB BK400.out⟩, ⟨sB HB.out⟩⟩
      ·replace c135 := Bool.eq_false_iff.mpr c135
       subst c135
       have H1 : (laws_FnRules.j1 kj4 l0 false t361 t362 t363 t364 t365 t366 t367 t368 t369 t370 t371 t372 t373 t374 t375 t376 t388 t389 t390 t391 t392 t393 t394 t395) = some r := by rw [if_neg (show ¬ (false = true) by decide)] at H; exact H
       clear H
       have H := H1
       clear H1
       have H' := Aside0.mk H
       clear H
       have hnb178 := NB399_377.out
       have hnc178 := NB377_399.out
       have hnb179 := NB399_378.out
       have hnc179 := NB378_399.out
       have hnb180 := NB399_400.out
       have hnc180 := NB400_399.out
       have hcz181_0 : w126.cell? ⟨gb399, 0, none⟩ = some (.int .i64 0) := (blk_cell BK399.out 0).trans rfl
       have hcz181_1 : w126.cell? ⟨gb399, 1, none⟩ = some (.int .i64 0) := (blk_cell BK399.out 1).trans rfl
       have hcz181_2 : w126.cell? ⟨gb399, 2, none⟩ = some (.int .i64 0) := (blk_cell BK399.out 2).trans rfl
       have hcz181_3 : w126.cell? ⟨gb399, 3, none⟩ = some (.int .i64 0) := (blk_cell BK399.out 3).trans rfl
       have hcz181_4 : w126.cell? ⟨gb399, 4, none⟩ = some (.int .i64 0) := (blk_cell BK399.out 4).trans rfl
       have hcz181_5 : w126.cell? ⟨gb399, 5, none⟩ = some (.int .i64 0) := (blk_cell BK399.out 5).trans rfl
       have hcz181_6 : w126.cell? ⟨gb399, 6, none⟩ = some (.int .i64 0) := (blk_cell BK399.out 6).trans rfl
       have hcz181_7 : w126.cell? ⟨gb399, 7, none⟩ = some (.int .i64 0) := (blk_cell BK399.out 7).trans rfl
       have hfz181_0 := blk_frozen BK399.out 0
       have hfz181_1 := blk_frozen BK399.out 1
       have hfz181_2 := blk_frozen BK399.out 2
       have hfz181_3 := blk_frozen BK399.out 3
       have hfz181_4 := blk_frozen BK399.out 4
       have hfz181_5 := blk_frozen BK399.out 5
       have hfz181_6 := blk_frozen BK399.out 6
       have hfz181_7 := blk_frozen BK399.out 7
       have hnb182 := NB400_377.out
       have hnc182 := NB377_400.out
       have hnb183 := NB400_378.out
       have hnc183 := NB378_400.out
       have hcz184_0 : w126.cell? ⟨gb400, 0, none⟩ = some (.int .i64 0) := (blk_cell BK400.out 0).trans rfl
       have hcz184_1 : w126.cell? ⟨gb400, 1, none⟩ = some (.int .i64 0) := (blk_cell BK400.out 1).trans rfl
       have hcz184_2 : w126.cell? ⟨gb400, 2, none⟩ = some (.int .i64 0) := (blk_cell BK400.out 2).trans rfl
       have hfz184_0 := blk_frozen BK400.out 0
       have hfz184_1 := blk_frozen BK400.out 1
       have hfz184_2 := blk_frozen BK400.out 2
       go_wp2_with (first | ((with_reducible refine gate_callee (f := 61) rfl ?_); refine goesL_ (some 56) rfl rfl Try.func61 (by kernel_rfl) rfl #[.agg #[.int .i64 t388, .int .i64 t389, .int .i64 t390, .int .i64 t391, .int .i64 t392, .int .i64 t393, .int .i64 t394, .int .i64 t395], .agg #[.int .i64 t396, .int .i64 t397, .int .i64 t398]] rfl (by (try simp only [List.map_toArray, List.map_cons, List.map_nil]); first | done | rfl | (simp only [List.length_drop, List.length_take]; rfl)) ?_; (with_reducible refine (impl_Applies.calls kj4 t388 t389 t390 t391 t392 t393 t394 t395 t396 t397 t398 false _ A134.out).mono ?_); rintro e w185 ⟨rfl, hb⟩; refine ⟨_, rfl, ?_⟩; replace BK377 := am (blk_below (g := gb377) (o := .cells #[.int .i64 t361, .int .i64 t362, .int .i64 t363, .int .i64 t364, .int .i64 t365, .int .i64 t366, .int .i64 t367, .int .i64 t368] 35 (0, 0)) (by refine bB ?_; refine blk_far ?_ NB377_400.out _; refine bB ?_; refine blk_far ?_ NB377_400.out _; refine bB ?_; refine blk_far ?_ NB377_400.out _; refine bB ?_; refine blk_far ?_ NB377_399.out _; refine bB ?_; refine blk_far ?_ NB377_399.out _; refine bB ?_; refine blk_far ?_ NB377_399.out _; refine bB ?_; refine blk_far ?_ NB377_399.out _; refine bB ?_; refine blk_far ?_ NB377_399.out _; refine bB ?_; refine blk_far ?_ NB377_399.out _; refine bB ?_; refine blk_far ?_ NB377_399.out _; refine bB ?_; refine blk_far ?_ NB377_399.out _; refine bB ?_; exact BK377.out) hb); replace BK378 := am (blk_below (g := gb378) (o := .cells #[.int .i64 t369, .int .i64 t370, .int .i64 t371, .int .i64 t372, .int .i64 t373, .int .i64 t374, .int .i64 t375, .int .i64 t376] 35 (0, 0)) (by refine bB ?_; refine blk_far ?_ NB378_400.out _; refine bB ?_; refine blk_far ?_ NB378_400.out _; refine bB ?_; refine blk_far ?_ NB378_400.out _; refine bB ?_; refine blk_far ?_ NB378_399.out _; refine bB ?_; refine blk_far ?_ NB378_399.out _; refine bB ?_; refine blk_far ?_ NB378_399.out _; refine bB ?_; refine blk_far ?_ NB378_399.out _; refine bB ?_; refine blk_far ?_ NB378_399.out _; refine bB ?_; refine blk_far ?_ NB378_399.out _; refine bB ?_; refine blk_far ?_ NB378_399.out _; refine bB ?_; refine blk_far ?_ NB378_399.out _; refine bB ?_; exact BK378.out) hb); replace BK399 := am (blk_below (g := gb399) (o := .cells #[.int .i64 t388, .int .i64 t389, .int .i64 t390, .int .i64 t391, .int .i64 t392, .int .i64 t393, .int .i64 t394, .int .i64 t395] 35 (0, 0)) (by refine bB ?_; refine blk_far ?_ NB399_400.out _; refine bB ?_; refine blk_far ?_ NB399_400.out _; refine bB ?_; refine blk_far ?_ NB399_400.out _; refine bB ?_; refine blk_put (cs := #[.int .i64 t388, .int .i64 t389, .int .i64 t390, .int .i64 t391, .int .i64 t392, .int .i64 t393, .int .i64 t394, .int .i64 0]) ?_ 7 _ rfl; refine bB ?_; refine blk_put (cs := #[.int .i64 t388, .int .i64 t389, .int .i64 t390, .int .i64 t391, .int .i64 t392, .int .i64 t393, .int .i64 0, .int .i64 0]) ?_ 6 _ rfl; refine bB ?_; refine blk_put (cs := #[.int .i64 t388, .int .i64 t389, .int .i64 t390, .int .i64 t391, .int .i64 t392, .int .i64 0, .int .i64 0, .int .i64 0]) ?_ 5 _ rfl; refine bB ?_; refine blk_put (cs := #[.int .i64 t388, .int .i64 t389, .int .i64 t390, .int .i64 t391, .int .i64 0, .int .i64 0, .int .i64 0, .int .i64 0]) ?_ 4 _ rfl; refine bB ?_; refine blk_put (cs := #[.int .i64 t388, .int .i64 t389, .int .i64 t390, .int .i64 0, .int .i64 0, .int .i64 0, .int .i64 0, .int .i64 0]) ?_ 3 _ rfl; refine bB ?_; refine blk_put (cs := #[.int .i64 t388, .int .i64 t389, .int .i64 0, .int .i64 0, .int .i64 0, .int .i64 0, .int .i64 0, .int .i64 0]) ?_ 2 _ rfl; refine bB ?_; refine blk_put (cs := #[.int .i64 t388, .int .i64 0, .int .i64 0, .int .i64 0, .int .i64 0, .int .i64 0, .int .i64 0, .int .i64 0]) ?_ 1 _ rfl; refine bB ?_; refine blk_put (cs := #[.int .i64 0, .int .i64 0, .int .i64 0, .int .i64 0, .int .i64 0, .int .i64 0, .int .i64 0, .int .i64 0]) ?_ 0 _ rfl; refine bB ?_; exact BK399.out) hb); replace BK400 := am (blk_below (g := gb400) (o := .cells #[.int .i64 t396, .int .i64 t397, .int .i64 t398] 86 (0, 0)) (by refine bB ?_; refine blk_put (cs := #[.int .i64 t396, .int .i64 t397, .int .i64 0]) ?_ 2 _ rfl; refine bB ?_; refine blk_put (cs := #[.int .i64 t396, .int .i64 0, .int .i64 0]) ?_ 1 _ rfl; refine bB ?_; refine blk_put (cs := #[.int .i64 0, .int .i64 0, .int .i64 0]) ?_ 0 _ rfl; refine bB ?_; refine blk_far ?_ NB400_399.out _; refine bB ?_; refine blk_far ?_ NB400_399.out _; refine bB ?_; refine blk_far ?_ NB400_399.out _; refine bB ?_; refine blk_far ?_ NB400_399.out _; refine bB ?_; refine blk_far ?_ NB400_399.out _; refine bB ?_; refine blk_far ?_ NB400_399.out _; refine bB ?_; refine blk_far ?_ NB400_399.out _; refine bB ?_; refine blk_far ?_ NB400_399.out _; refine bB ?_; exact BK400.out) hb); replace HB := am (below_step (sB HB.out) hb); (try clear hb); (try clear hb2); (try clear hk); (try clear hi)))
       go_meet
       case rel => exact ⟨_, (false), (by first | rfl | (simp; done) | (simp [*]; done)), H', ⟨by have := HJ4.out; first | omega | exact Nat.le_refl _⟩, ⟨bB BK377.out⟩, ⟨bB BK378.out⟩, ⟨bB BK399.out⟩, ⟨bB BK400.out⟩, ⟨sB HB.out⟩⟩
     case rest =>
      clear HC123
      try clear c1
      try clear p2
      try clear c6
      try clear c12
      try clear c13
      try clear c14
      try clear c15
      try clear c16
      try clear c17
      try clear c18
      try clear c60
      try clear c61
      try clear c121
      try clear c127
      try clear c128
      try clear c129
      try clear c131
      try clear c132
      try clear c135
      try clear c137
      try clear c139
      try clear c141
      try clear c142
      try clear c143
      try clear c145
      try clear c146
      try clear c156
      try clear c157
      try clear c158
      try clear c160
      try clear c161
      try clear c168
      try clear c169
      try clear c170
      try clear c172
      try clear c173
      try clear c178
      try clear c179
      try clear c180
      try clear c182
      try clear c183
      try clear hcz130_0 hcz130_1 hcz130_2 hcz130_3 hcz130_4 hcz130_5 hcz130_6 hcz130_7
      try clear hcz133_0 hcz133_1 hcz133_2
      try clear hcz144_0 hcz144_1 hcz144_2 hcz144_3 hcz144_4 hcz144_5 hcz144_6 hcz144_7
      try clear hcz147_0 hcz147_1 hcz147_2
      try clear hcz149_0 hcz149_1 hcz149_2 hcz149_3 hcz149_4 hcz149_5 hcz149_6 hcz149_7
      try clear hcz151_0 hcz151_1 hcz151_2
      try clear hcz153_0 hcz153_1 hcz153_2 hcz153_3 hcz153_4 hcz153_5 hcz153_6 hcz153_7
      try clear hcz154_0 hcz154_1 hcz154_2
      try clear hcz159_0 hcz159_1 hcz159_2 hcz159_3 hcz159_4 hcz159_5 hcz159_6 hcz159_7
      try clear hcz162_0 hcz162_1 hcz162_2
      try clear hcz164_0 hcz164_1 hcz164_2 hcz164_3 hcz164_4 hcz164_5 hcz164_6 hcz164_7
      try clear hcz166_0 hcz166_1 hcz166_2
      try clear hcz171_0 hcz171_1 hcz171_2 hcz171_3 hcz171_4 hcz171_5 hcz171_6 hcz171_7
      try clear hcz174_0 hcz174_1 hcz174_2
      try clear hcz176_0 hcz176_1 hcz176_2 hcz176_3 hcz176_4 hcz176_5 hcz176_6 hcz176_7
      try clear hcz181_0 hcz181_1 hcz181_2 hcz181_3 hcz181_4 hcz181_5 hcz181_6 hcz181_7
      try clear hcz184_0 hcz184_1 hcz184_2
      try clear hfz116_7
      try clear hfz118_0 hfz118_1 hfz118_2 hfz118_3 hfz118_4 hfz118_5 hfz118_6 hfz118_7
      try clear hfz119_0 hfz119_1 hfz119_2 hfz119_3 hfz119_4 hfz119_5 hfz119_6 hfz119_7
      try clear hfz11_0 hfz11_1 hfz11_2 hfz11_3 hfz11_4 hfz11_5 hfz11_6 hfz11_7
      try clear hfz130_0 hfz130_1 hfz130_2 hfz130_3 hfz130_4 hfz130_5 hfz130_6 hfz130_7
      try clear hfz133_0 hfz133_1 hfz133_2
      try clear hfz144_0 hfz144_1 hfz144_2 hfz144_3 hfz144_4 hfz144_5 hfz144_6 hfz144_7
      try clear hfz147_0 hfz147_1 hfz147_2
      try clear hfz149_0 hfz149_1 hfz149_2 hfz149_3 hfz149_4 hfz149_5 hfz149_6 hfz149_7
      try clear hfz151_0 hfz151_1 hfz151_2
      try clear hfz153_0 hfz153_1 hfz153_2 hfz153_3 hfz153_4 hfz153_5 hfz153_6 hfz153_7
      try clear hfz154_0 hfz154_1 hfz154_2
      try clear hfz159_0 hfz159_1 hfz159_2 hfz159_3 hfz159_4 hfz159_5 hfz159_6 hfz159_7
      try clear hfz15_0 hfz15_1 hfz15_2 hfz15_3 hfz15_4 hfz15_5 hfz15_6 hfz15_7
      try clear hfz162_0 hfz162_1 hfz162_2
      try clear hfz164_0 hfz164_1 hfz164_2 hfz164_3 hfz164_4 hfz164_5 hfz164_6 hfz164_7
      try clear hfz166_0 hfz166_1 hfz166_2
      try clear hfz171_0 hfz171_1 hfz171_2 hfz171_3 hfz171_4 hfz171_5 hfz171_6 hfz171_7
      try clear hfz174_0 hfz174_1 hfz174_2
      try clear hfz176_0 hfz176_1 hfz176_2 hfz176_3 hfz176_4 hfz176_5 hfz176_6 hfz176_7
      try clear hfz181_0 hfz181_1 hfz181_2 hfz181_3 hfz181_4 hfz181_5 hfz181_6 hfz181_7
      try clear hfz184_0 hfz184_1 hfz184_2
      try clear hfz22_0 hfz22_1 hfz22_2 hfz22_3 hfz22_4 hfz22_5 hfz22_6 hfz22_7
      try clear hfz24_0 hfz24_1 hfz24_2 hfz24_3 hfz24_4 hfz24_5 hfz24_6 hfz24_7
      try clear hfz25_0 hfz25_1 hfz25_2 hfz25_3 hfz25_4 hfz25_5 hfz25_6 hfz25_7
      try clear hfz27_0 hfz27_1 hfz27_2 hfz27_3 hfz27_4 hfz27_5 hfz27_6 hfz27_7
      try clear hfz28_0 hfz28_1 hfz28_2 hfz28_3 hfz28_4 hfz28_5 hfz28_6 hfz28_7
      try clear hfz33_0 hfz33_1 hfz33_2 hfz33_3 hfz33_4 hfz33_5 hfz33_6 hfz33_7
      try clear hfz35_0 hfz35_1 hfz35_2 hfz35_3 hfz35_4 hfz35_5 hfz35_6 hfz35_7
      try clear hfz36_0 hfz36_1 hfz36_2 hfz36_3 hfz36_4 hfz36_5 hfz36_6 hfz36_7
      try clear hfz38_0 hfz38_1 hfz38_2 hfz38_3 hfz38_4 hfz38_5 hfz38_6 hfz38_7
      try clear hfz39_0 hfz39_1 hfz39_2 hfz39_3 hfz39_4 hfz39_5 hfz39_6 hfz39_7
      try clear hfz41_0 hfz41_1 hfz41_2 hfz41_3 hfz41_4 hfz41_5 hfz41_6 hfz41_7
      try clear hfz42_0 hfz42_1 hfz42_2 hfz42_3 hfz42_4 hfz42_5 hfz42_6 hfz42_7
      try clear hfz47_0 hfz47_1 hfz47_2 hfz47_3 hfz47_4 hfz47_5 hfz47_6 hfz47_7
      try clear hfz49_0 hfz49_1 hfz49_2 hfz49_3 hfz49_4 hfz49_5 hfz49_6 hfz49_7
      try clear hfz50_0 hfz50_1 hfz50_2 hfz50_3 hfz50_4 hfz50_5 hfz50_6 hfz50_7
      try clear hfz52_0 hfz52_1 hfz52_2 hfz52_3 hfz52_4 hfz52_5 hfz52_6 hfz52_7
      try clear hfz53_0 hfz53_1 hfz53_2 hfz53_3 hfz53_4 hfz53_5 hfz53_6 hfz53_7
      try clear hfz55_0 hfz55_1 hfz55_2 hfz55_3 hfz55_4 hfz55_5 hfz55_6 hfz55_7
      try clear hfz56_0 hfz56_1 hfz56_2 hfz56_3 hfz56_4 hfz56_5 hfz56_6 hfz56_7
      try clear hfz58_0 hfz58_1 hfz58_2 hfz58_3 hfz58_4 hfz58_5 hfz58_6 hfz58_7
      try clear hfz59_0 hfz59_1 hfz59_2 hfz59_3 hfz59_4 hfz59_5 hfz59_6 hfz59_7
      try clear hfz63_0 hfz63_1 hfz63_2 hfz63_3 hfz63_4 hfz63_5 hfz63_6 hfz63_7
      try clear hfz65_0 hfz65_1 hfz65_2 hfz65_3 hfz65_4 hfz65_5 hfz65_6 hfz65_7
      try clear hfz66_0 hfz66_1 hfz66_2 hfz66_3 hfz66_4 hfz66_5 hfz66_6 hfz66_7
      try clear hfz68_0 hfz68_1 hfz68_2 hfz68_3 hfz68_4 hfz68_5 hfz68_6 hfz68_7
      try clear hfz69_0 hfz69_1 hfz69_2 hfz69_3 hfz69_4 hfz69_5 hfz69_6 hfz69_7
      try clear hfz71_0 hfz71_1 hfz71_2 hfz71_3 hfz71_4 hfz71_5 hfz71_6 hfz71_7
      try clear hfz72_0 hfz72_1 hfz72_2 hfz72_3 hfz72_4 hfz72_5 hfz72_6 hfz72_7
      try clear hfz74_0 hfz74_1 hfz74_2 hfz74_3 hfz74_4 hfz74_5 hfz74_6 hfz74_7
      try clear hfz75_0 hfz75_1 hfz75_2 hfz75_3 hfz75_4 hfz75_5 hfz75_6 hfz75_7
      try clear hfz77_0 hfz77_1 hfz77_2 hfz77_3 hfz77_4 hfz77_5 hfz77_6 hfz77_7
      try clear hfz78_0 hfz78_1 hfz78_2 hfz78_3 hfz78_4 hfz78_5 hfz78_6 hfz78_7
      try clear hfz83_0 hfz83_1 hfz83_2 hfz83_3 hfz83_4 hfz83_5 hfz83_6 hfz83_7
      try clear hfz85_0 hfz85_1 hfz85_2 hfz85_3 hfz85_4 hfz85_5 hfz85_6 hfz85_7
      try clear hfz86_0 hfz86_1 hfz86_2 hfz86_3 hfz86_4 hfz86_5 hfz86_6 hfz86_7
      try clear hfz88_0 hfz88_1 hfz88_2 hfz88_3 hfz88_4 hfz88_5 hfz88_6 hfz88_7
      try clear hfz89_0 hfz89_1 hfz89_2 hfz89_3 hfz89_4 hfz89_5 hfz89_6 hfz89_7
      try clear hfz94_0 hfz94_1 hfz94_2 hfz94_3 hfz94_4 hfz94_5 hfz94_6 hfz94_7
      try clear hfz96_0 hfz96_1 hfz96_2 hfz96_3 hfz96_4 hfz96_5 hfz96_6 hfz96_7
      try clear hfz97_0 hfz97_1 hfz97_2 hfz97_3 hfz97_4 hfz97_5 hfz97_6 hfz97_7
      try clear hfz99_0 hfz99_1 hfz99_2 hfz99_3 hfz99_4 hfz99_5 hfz99_6 hfz99_7
      obtain ⟨kq, x74_122, rfl, HA, HJ122, BK377, BK378, BK399, BK400, HB⟩ := hcut
      cases kq with
      | zero => exact absurd HA.out (by simp [laws_FnRules.j1])
      | succ kj122 =>
       have H := HA.out
       clear HA
       simp only [laws_FnRules.j1] at H
       by_cases c186 : x74_122 = true
       ·subst c186
        have H1 : (some false) = some r := by rw [if_pos rfl] at H; exact H
        clear H
        have H := H1
        clear H1
        exact absurd ((Option.some.inj H).trans HRT.out) (by decide)
       ·replace c186 := Bool.eq_false_iff.mpr c186
        subst c186
        have H1 : ((impl_IsBefore.f kj122 t361 t362 t363 t364 t365 t366 t367 t368 t369 t370 t371 t372 t373 t374 t375 t376).bind fun t405 => (if t405 = true then ((impl_IsBefore.f kj122 t369 t370 t371 t372 t373 t374 t375 t376 t388 t389 t390 t391 t392 t393 t394 t395).bind fun t406 => (if t406 = true then ((impl_IsBefore.f kj122 t361 t362 t363 t364 t365 t366 t367 t368 t388 t389 t390 t391 t392 t393 t394 t395).bind fun t407 => (laws_FnRules.j2 kj122 l0 (!t407) t388 t389 t390 t391 t392 t393 t394 t395)) else (laws_FnRules.j2 kj122 l0 false t388 t389 t390 t391 t392 t393 t394 t395))) else (laws_FnRules.j2 kj122 l0 false t388 t389 t390 t391 t392 t393 t394 t395))) = some r := by rw [if_neg (show ¬ (false = true) by decide)] at H; exact H
        clear H
        have H := H1
        clear H1
        have HC187 := Aside0.mk H
        clear H
        go_upto_region 9 with (fail)
        go_cut [88] (fun v88 wc => ∃ (kq : Nat) (x88_186 : Bool), v88 = .bool x88_186 ∧ Aside0 (laws_FnRules.j2 kq l0 x88_186 t388 t389 t390 t391 t392 t393 t394 t395 = some r) ∧ Aside0 (kq ≤ kj122) ∧ Aside0 (wc.heap[gb377]? = some (.cells #[.int .i64 t361, .int .i64 t362, .int .i64 t363, .int .i64 t364, .int .i64 t365, .int .i64 t366, .int .i64 t367, .int .i64 t368] 35 (0, 0))) ∧ Aside0 (wc.heap[gb378]? = some (.cells #[.int .i64 t369, .int .i64 t370, .int .i64 t371, .int .i64 t372, .int .i64 t373, .int .i64 t374, .int .i64 t375, .int .i64 t376] 35 (0, 0))) ∧ Aside0 (wc.heap[gb399]? = some (.cells #[.int .i64 t388, .int .i64 t389, .int .i64 t390, .int .i64 t391, .int .i64 t392, .int .i64 t393, .int .i64 t394, .int .i64 t395] 35 (0, 0))) ∧ Aside0 (wc.heap[gb400]? = some (.cells #[.int .i64 t396, .int .i64 t397, .int .i64 t398] 86 (0, 0))) ∧ Aside0 (Below w.heap.size w wc))
        case first =>
         have H := HC187.out
         clear HC187
         replace H := Option.bind_eq_some_iff.mp H
         obtain ⟨t405, A1880, H⟩ := H
         replace H : (if t405 = true then ((impl_IsBefore.f kj122 t369 t370 t371 t372 t373 t374 t375 t376 t388 t389 t390 t391 t392 t393 t394 t395).bind fun t406 => (if t406 = true then ((impl_IsBefore.f kj122 t361 t362 t363 t364 t365 t366 t367 t368 t388 t389 t390 t391 t392 t393 t394 t395).bind fun t407 => (laws_FnRules.j2 kj122 l0 (!t407) t388 t389 t390 t391 t392 t393 t394 t395)) else (laws_FnRules.j2 kj122 l0 false t388 t389 t390 t391 t392 t393 t394 t395))) else (laws_FnRules.j2 kj122 l0 false t388 t389 t390 t391 t392 t393 t394 t395)) = some r := H
         have A188 := Aside0.mk A1880
         clear A1880
         by_cases c189 : t405 = true
         ·subst c189
          have H1 : ((impl_IsBefore.f kj122 t369 t370 t371 t372 t373 t374 t375 t376 t388 t389 t390 t391 t392 t393 t394 t395).bind fun t406 => (if t406 = true then ((impl_IsBefore.f kj122 t361 t362 t363 t364 t365 t366 t367 t368 t388 t389 t390 t391 t392 t393 t394 t395).bind fun t407 => (laws_FnRules.j2 kj122 l0 (!t407) t388 t389 t390 t391 t392 t393 t394 t395)) else (laws_FnRules.j2 kj122 l0 false t388 t389 t390 t391 t392 t393 t394 t395))) = some r := by rw [if_pos rfl] at H; exact H
          clear H
          have H := H1
          clear H1
          replace H := Option.bind_eq_some_iff.mp H
          obtain ⟨t406, A1900, H⟩ := H
          replace H : (if t406 = true then ((impl_IsBefore.f kj122 t361 t362 t363 t364 t365 t366 t367 t368 t388 t389 t390 t391 t392 t393 t394 t395).bind fun t407 => (laws_FnRules.j2 kj122 l0 (!t407) t388 t389 t390 t391 t392 t393 t394 t395)) else (laws_FnRules.j2 kj122 l0 false t388 t389 t390 t391 t392 t393 t394 t395)) = some r := H
          have A190 := Aside0.mk A1900
          clear A1900
          by_cases c191 : t406 = true
          ·subst c191
           have H1 : ((impl_IsBefore.f kj122 t361 t362 t363 t364 t365 t366 t367 t368 t388 t389 t390 t391 t392 t393 t394 t395).bind fun t407 => (laws_FnRules.j2 kj122 l0 (!t407) t388 t389 t390 t391 t392 t393 t394 t395)) = some r := by rw [if_pos rfl] at H; exact H
           clear H
           have H := H1
           clear H1
           replace H := Option.bind_eq_some_iff.mp H
           obtain ⟨t407, A1920, H⟩ := H
           replace H : (laws_FnRules.j2 kj122 l0 (!t407) t388 t389 t390 t391 t392 t393 t394 t395) = some r := H
           have A192 := Aside0.mk A1920
           clear A1920
           have H' := Aside0.mk H
           clear H
           have hnb193 := NB377_378.out
           have hnc193 := NB378_377.out
           have hnb194 := NB377_399.out
           have hnc194 := NB399_377.out
           have hnb195 := NB377_400.out
           have hnc195 := NB400_377.out
           have hcz196_0 : wc.cell? ⟨gb377, 0, none⟩ = some (.int .i64 t361) := (blk_cell BK377.out 0).trans rfl
           have hcz196_1 : wc.cell? ⟨gb377, 1, none⟩ = some (.int .i64 t362) := (blk_cell BK377.out 1).trans rfl
           have hcz196_2 : wc.cell? ⟨gb377, 2, none⟩ = some (.int .i64 t363) := (blk_cell BK377.out 2).trans rfl
           have hcz196_3 : wc.cell? ⟨gb377, 3, none⟩ = some (.int .i64 t364) := (blk_cell BK377.out 3).trans rfl
           have hcz196_4 : wc.cell? ⟨gb377, 4, none⟩ = some (.int .i64 t365) := (blk_cell BK377.out 4).trans rfl
           have hcz196_5 : wc.cell? ⟨gb377, 5, none⟩ = some (.int .i64 t366) := (blk_cell BK377.out 5).trans rfl
           have hcz196_6 : wc.cell? ⟨gb377, 6, none⟩ = some (.int .i64 t367) := (blk_cell BK377.out 6).trans rfl
           have hcz196_7 : wc.cell? ⟨gb377, 7, none⟩ = some (.int .i64 t368) := (blk_cell BK377.out 7).trans rfl
           have hfz196_0 := blk_frozen BK377.out 0
           have hfz196_1 := blk_frozen BK377.out 1
           have hfz196_2 := blk_frozen BK377.out 2
           have hfz196_3 := blk_frozen BK377.out 3
           have hfz196_4 := blk_frozen BK377.out 4
           have hfz196_5 := blk_frozen BK377.out 5
           have hfz196_6 := blk_frozen BK377.out 6
           have hfz196_7 := blk_frozen BK377.out 7
           have hnb197 := NB378_399.out
           have hnc197 := NB399_378.out
           have hnb198 := NB378_400.out
           have hnc198 := NB400_378.out
           have hcz199_0 : wc.cell? ⟨gb378, 0, none⟩ = some (.int .i64 t369) := (blk_cell BK378.out 0).trans rfl
           have hcz199_1 : wc.cell? ⟨gb378, 1, none⟩ = some (.int .i64 t370) := (blk_cell BK378.out 1).trans rfl
           have hcz199_2 : wc.cell? ⟨gb378, 2, none⟩ = some (.int .i64 t371) := (blk_cell BK378.out 2).trans rfl
           have hcz199_3 : wc.cell? ⟨gb378, 3, none⟩ = some (.int .i64 t372) := (blk_cell BK378.out 3).trans rfl
           have hcz199_4 : wc.cell? ⟨gb378, 4, none⟩ = some (.int .i64 t373) := (blk_cell BK378.out 4).trans rfl
           have hcz199_5 : wc.cell? ⟨gb378, 5, none⟩ = some (.int .i64 t374) := (blk_cell BK378.out 5).trans rfl
           have hcz199_6 : wc.cell? ⟨gb378, 6, none⟩ = some (.int .i64 t375) := (blk_cell BK378.out 6).trans rfl
           have hcz199_7 : wc.cell? ⟨gb378, 7, none⟩ = some (.int .i64 t376) := (blk_cell BK378.out 7).trans rfl
           have hfz199_0 := blk_frozen BK378.out 0
           have hfz199_1 := blk_frozen BK378.out 1
           have hfz199_2 := blk_frozen BK378.out 2
           have hfz199_3 := blk_frozen BK378.out 3
           have hfz199_4 := blk_frozen BK378.out 4
           have hfz199_5 := blk_frozen BK378.out 5
           have hfz199_6 := blk_frozen BK378.out 6
           have hfz199_7 := blk_frozen BK378.out 7
           go_wp2_with (first | ((with_reducible refine gate_callee (f := 58) rfl ?_); refine goesL_ (some 77) rfl rfl Try.func58 (by kernel_rfl) rfl #[.agg #[.int .i64 t361, .int .i64 t362, .int .i64 t363, .int .i64 t364, .int .i64 t365, .int .i64 t366, .int .i64 t367, .int .i64 t368], .agg #[.int .i64 t369, .int .i64 t370, .int .i64 t371, .int .i64 t372, .int .i64 t373, .int .i64 t374, .int .i64 t375, .int .i64 t376]] rfl (by (try simp only [List.map_toArray, List.map_cons, List.map_nil]); first | done | rfl | (simp only [List.length_drop, List.length_take]; rfl)) ?_; (with_reducible refine (impl_IsBefore.calls kj122 t361 t362 t363 t364 t365 t366 t367 t368 t369 t370 t371 t372 t373 t374 t375 t376 true _ A188.out).mono ?_); rintro e w200 ⟨rfl, hb⟩; refine ⟨_, rfl, ?_⟩; replace BK377 := am (blk_below (bB BK377.out) hb); replace BK378 := am (blk_below (bB BK378.out) hb); replace BK399 := am (blk_below (bB BK399.out) hb); replace BK400 := am (blk_below (bB BK400.out) hb); replace HB := am (below_step (sB HB.out) hb); (try clear hb); (try clear hb2); (try clear hk); (try clear hi); obtain ⟨hcz201_0, hcz201_1, hcz201_2, hcz201_3, hcz201_4, hcz201_5, hcz201_6, hcz201_7, hfz201_0, hfz201_1, hfz201_2, hfz201_3, hfz201_4, hfz201_5, hfz201_6, hfz201_7⟩ := blk8 BK378.out; have hnb202 := NB399_400.out; have hnc202 := NB400_399.out; obtain ⟨hcz203_0, hcz203_1, hcz203_2, hcz203_3, hcz203_4, hcz203_5, hcz203_6, hcz203_7, hfz203_0, hfz203_1, hfz203_2, hfz203_3, hfz203_4, hfz203_5, hfz203_6, hfz203_7⟩ := blk8 BK399.out) | (go_at_call 58; (with_reducible refine (impl_IsBefore.calls kj122 t369 t370 t371 t372 t373 t374 t375 t376 t388 t389 t390 t391 t392 t393 t394 t395 true _ A190.out).mono ?_); rintro e w204 ⟨rfl, hb⟩; replace BK377 := am (blk_below (bB BK377.out) hb); replace BK378 := am (blk_below (bB BK378.out) hb); replace BK399 := am (blk_below (bB BK399.out) hb); replace BK400 := am (blk_below (bB BK400.out) hb); replace HB := am (below_step (sB HB.out) hb); (try clear hb); (try clear hb2); (try clear hk); (try clear hi); obtain ⟨hcz205_0, hcz205_1, hcz205_2, hcz205_3, hcz205_4, hcz205_5, hcz205_6, hcz205_7, hfz205_0, hfz205_1, hfz205_2, hfz205_3, hfz205_4, hfz205_5, hfz205_6, hfz205_7⟩ := blk8 BK377.out; obtain ⟨hcz206_0, hcz206_1, hcz206_2, hcz206_3, hcz206_4, hcz206_5, hcz206_6, hcz206_7, hfz206_0, hfz206_1, hfz206_2, hfz206_3, hfz206_4, hfz206_5, hfz206_6, hfz206_7⟩ := blk8 BK399.out) | (go_at_call 58; (with_reducible refine (impl_IsBefore.calls kj122 t361 t362 t363 t364 t365 t366 t367 t368 t388 t389 t390 t391 t392 t393 t394 t395 t407 _ A192.out).mono ?_); rintro e w207 ⟨rfl, hb⟩; replace BK377 := am (blk_below (bB BK377.out) hb); replace BK378 := am (blk_below (bB BK378.out) hb); replace BK399 := am (blk_below (bB BK399.out) hb); replace BK400 := am (blk_below (bB BK400.out) hb); replace HB := am (below_step (sB HB.out) hb); (try clear hb); (try clear hb2); (try clear hk); (try clear hi)))
           go_meet
           case rel => exact ⟨_, (!t407), (by first | rfl | (simp; done) | (simp [*]; done)), H', ⟨by have := HJ4.out; have := HJ122.out; first | omega | exact Nat.le_refl _⟩, ⟨bB BK377.out⟩, ⟨bB BK378.out⟩, ⟨bB BK399.out⟩, ⟨bB BK400.out⟩, ⟨sB HB.out⟩⟩
          ·replace c191 := Bool.eq_false_iff.mpr c191
           subst c191
           have H1 : (laws_FnRules.j2 kj122 l0 false t388 t389 t390 t391 t392 t393 t394 t395) = some r := by rw [if_neg (show ¬ (false = true) by decide)] at H; exact H
           clear H
           have H := H1
           clear H1
           have H' := Aside0.mk H
           clear H
           have hnb208 := NB377_378.out
           have hnc208 := NB378_377.out
           have hnb209 := NB377_399.out
           have hnc209 := NB399_377.out
           have hnb210 := NB377_400.out
           have hnc210 := NB400_377.out
           have hcz211_0 : wc.cell? ⟨gb377, 0, none⟩ = some (.int .i64 t361) := (blk_cell BK377.out 0).trans rfl
           have hcz211_1 : wc.cell? ⟨gb377, 1, none⟩ = some (.int .i64 t362) := (blk_cell BK377.out 1).trans rfl
           have hcz211_2 : wc.cell? ⟨gb377, 2, none⟩ = some (.int .i64 t363) := (blk_cell BK377.out 2).trans rfl
           have hcz211_3 : wc.cell? ⟨gb377, 3, none⟩ = some (.int .i64 t364) := (blk_cell BK377.out 3).trans rfl
           have hcz211_4 : wc.cell? ⟨gb377, 4, none⟩ = some (.int .i64 t365) := (blk_cell BK377.out 4).trans rfl
           have hcz211_5 : wc.cell? ⟨gb377, 5, none⟩ = some (.int .i64 t366) := (blk_cell BK377.out 5).trans rfl
           have hcz211_6 : wc.cell? ⟨gb377, 6, none⟩ = some (.int .i64 t367) := (blk_cell BK377.out 6).trans rfl
           have hcz211_7 : wc.cell? ⟨gb377, 7, none⟩ = some (.int .i64 t368) := (blk_cell BK377.out 7).trans rfl
           have hfz211_0 := blk_frozen BK377.out 0
           have hfz211_1 := blk_frozen BK377.out 1
           have hfz211_2 := blk_frozen BK377.out 2
           have hfz211_3 := blk_frozen BK377.out 3
           have hfz211_4 := blk_frozen BK377.out 4
           have hfz211_5 := blk_frozen BK377.out 5
           have hfz211_6 := blk_frozen BK377.out 6
           have hfz211_7 := blk_frozen BK377.out 7
           have hnb212 := NB378_399.out
           have hnc212 := NB399_378.out
           have hnb213 := NB378_400.out
           have hnc213 := NB400_378.out
           have hcz214_0 : wc.cell? ⟨gb378, 0, none⟩ = some (.int .i64 t369) := (blk_cell BK378.out 0).trans rfl
           have hcz214_1 : wc.cell? ⟨gb378, 1, none⟩ = some (.int .i64 t370) := (blk_cell BK378.out 1).trans rfl
           have hcz214_2 : wc.cell? ⟨gb378, 2, none⟩ = some (.int .i64 t371) := (blk_cell BK378.out 2).trans rfl
           have hcz214_3 : wc.cell? ⟨gb378, 3, none⟩ = some (.int .i64 t372) := (blk_cell BK378.out 3).trans rfl
           have hcz214_4 : wc.cell? ⟨gb378, 4, none⟩ = some (.int .i64 t373) := (blk_cell BK378.out 4).trans rfl
           have hcz214_5 : wc.cell? ⟨gb378, 5, none⟩ = some (.int .i64 t374) := (blk_cell BK378.out 5).trans rfl
           have hcz214_6 : wc.cell? ⟨gb378, 6, none⟩ = some (.int .i64 t375) := (blk_cell BK378.out 6).trans rfl
           have hcz214_7 : wc.cell? ⟨gb378, 7, none⟩ = some (.int .i64 t376) := (blk_cell BK378.out 7).trans rfl
           have hfz214_0 := blk_frozen BK378.out 0
           have hfz214_1 := blk_frozen BK378.out 1
           have hfz214_2 := blk_frozen BK378.out 2
           have hfz214_3 := blk_frozen BK378.out 3
           have hfz214_4 := blk_frozen BK378.out 4
           have hfz214_5 := blk_frozen BK378.out 5
           have hfz214_6 := blk_frozen BK378.out 6
           have hfz214_7 := blk_frozen BK378.out 7
           go_wp2_with (first | ((with_reducible refine gate_callee (f := 58) rfl ?_); refine goesL_ (some 77) rfl rfl Try.func58 (by kernel_rfl) rfl #[.agg #[.int .i64 t361, .int .i64 t362, .int .i64 t363, .int .i64 t364, .int .i64 t365, .int .i64 t366, .int .i64 t367, .int .i64 t368], .agg #[.int .i64 t369, .int .i64 t370, .int .i64 t371, .int .i64 t372, .int .i64 t373, .int .i64 t374, .int .i64 t375, .int .i64 t376]] rfl (by (try simp only [List.map_toArray, List.map_cons, List.map_nil]); first | done | rfl | (simp only [List.length_drop, List.length_take]; rfl)) ?_; (with_reducible refine (impl_IsBefore.calls kj122 t361 t362 t363 t364 t365 t366 t367 t368 t369 t370 t371 t372 t373 t374 t375 t376 true _ A188.out).mono ?_); rintro e w215 ⟨rfl, hb⟩; refine ⟨_, rfl, ?_⟩; replace BK377 := am (blk_below (bB BK377.out) hb); replace BK378 := am (blk_below (bB BK378.out) hb); replace BK399 := am (blk_below (bB BK399.out) hb); replace BK400 := am (blk_below (bB BK400.out) hb); replace HB := am (below_step (sB HB.out) hb); (try clear hb); (try clear hb2); (try clear hk); (try clear hi); obtain ⟨hcz216_0, hcz216_1, hcz216_2, hcz216_3, hcz216_4, hcz216_5, hcz216_6, hcz216_7, hfz216_0, hfz216_1, hfz216_2, hfz216_3, hfz216_4, hfz216_5, hfz216_6, hfz216_7⟩ := blk8 BK378.out; have hnb217 := NB399_400.out; have hnc217 := NB400_399.out; obtain ⟨hcz218_0, hcz218_1, hcz218_2, hcz218_3, hcz218_4, hcz218_5, hcz218_6, hcz218_7, hfz218_0, hfz218_1, hfz218_2, hfz218_3, hfz218_4, hfz218_5, hfz218_6, hfz218_7⟩ := blk8 BK399.out) | (go_at_call 58; (with_reducible refine (impl_IsBefore.calls kj122 t369 t370 t371 t372 t373 t374 t375 t376 t388 t389 t390 t391 t392 t393 t394 t395 false _ A190.out).mono ?_); rintro e w219 ⟨rfl, hb⟩; replace BK377 := am (blk_below (bB BK377.out) hb); replace BK378 := am (blk_below (bB BK378.out) hb); replace BK399 := am (blk_below (bB BK399.out) hb); replace BK400 := am (blk_below (bB BK400.out) hb); replace HB := am (below_step (sB HB.out) hb); (try clear hb); (try clear hb2); (try clear hk); (try clear hi)))
           go_meet
           case rel => exact ⟨_, (false), (by first | rfl | (simp; done) | (simp [*]; done)), H', ⟨by have := HJ4.out; have := HJ122.out; first | omega | exact Nat.le_refl _⟩, ⟨bB BK377.out⟩, ⟨bB BK378.out⟩, ⟨bB BK399.out⟩, ⟨bB BK400.out⟩, ⟨sB HB.out⟩⟩
         ·replace c189 := Bool.eq_false_iff.mpr c189
          subst c189
          have H1 : (laws_FnRules.j2 kj122 l0 false t388 t389 t390 t391 t392 t393 t394 t395) = some r := by rw [if_neg (show ¬ (false = true) by decide)] at H; exact H
          clear H
          have H := H1
          clear H1
          have H' := Aside0.mk H
          clear H
          have hnb220 := NB377_378.out
          have hnc220 := NB378_377.out
          have hnb221 := NB377_399.out
          have hnc221 := NB399_377.out
          have hnb222 := NB377_400.out
          have hnc222 := NB400_377.out
          have hcz223_0 : wc.cell? ⟨gb377, 0, none⟩ = some (.int .i64 t361) := (blk_cell BK377.out 0).trans rfl
          have hcz223_1 : wc.cell? ⟨gb377, 1, none⟩ = some (.int .i64 t362) := (blk_cell BK377.out 1).trans rfl
          have hcz223_2 : wc.cell? ⟨gb377, 2, none⟩ = some (.int .i64 t363) := (blk_cell BK377.out 2).trans rfl
          have hcz223_3 : wc.cell? ⟨gb377, 3, none⟩ = some (.int .i64 t364) := (blk_cell BK377.out 3).trans rfl
          have hcz223_4 : wc.cell? ⟨gb377, 4, none⟩ = some (.int .i64 t365) := (blk_cell BK377.out 4).trans rfl
          have hcz223_5 : wc.cell? ⟨gb377, 5, none⟩ = some (.int .i64 t366) := (blk_cell BK377.out 5).trans rfl
          have hcz223_6 : wc.cell? ⟨gb377, 6, none⟩ = some (.int .i64 t367) := (blk_cell BK377.out 6).trans rfl
          have hcz223_7 : wc.cell? ⟨gb377, 7, none⟩ = some (.int .i64 t368) := (blk_cell BK377.out 7).trans rfl
          have hfz223_0 := blk_frozen BK377.out 0
          have hfz223_1 := blk_frozen BK377.out 1
          have hfz223_2 := blk_frozen BK377.out 2
          have hfz223_3 := blk_frozen BK377.out 3
          have hfz223_4 := blk_frozen BK377.out 4
          have hfz223_5 := blk_frozen BK377.out 5
          have hfz223_6 := blk_frozen BK377.out 6
          have hfz223_7 := blk_frozen BK377.out 7
          have hnb224 := NB378_399.out
          have hnc224 := NB399_378.out
          have hnb225 := NB378_400.out
          have hnc225 := NB400_378.out
          have hcz226_0 : wc.cell? ⟨gb378, 0, none⟩ = some (.int .i64 t369) := (blk_cell BK378.out 0).trans rfl
          have hcz226_1 : wc.cell? ⟨gb378, 1, none⟩ = some (.int .i64 t370) := (blk_cell BK378.out 1).trans rfl
          have hcz226_2 : wc.cell? ⟨gb378, 2, none⟩ = some (.int .i64 t371) := (blk_cell BK378.out 2).trans rfl
          have hcz226_3 : wc.cell? ⟨gb378, 3, none⟩ = some (.int .i64 t372) := (blk_cell BK378.out 3).trans rfl
          have hcz226_4 : wc.cell? ⟨gb378, 4, none⟩ = some (.int .i64 t373) := (blk_cell BK378.out 4).trans rfl
          have hcz226_5 : wc.cell? ⟨gb378, 5, none⟩ = some (.int .i64 t374) := (blk_cell BK378.out 5).trans rfl
          have hcz226_6 : wc.cell? ⟨gb378, 6, none⟩ = some (.int .i64 t375) := (blk_cell BK378.out 6).trans rfl
          have hcz226_7 : wc.cell? ⟨gb378, 7, none⟩ = some (.int .i64 t376) := (blk_cell BK378.out 7).trans rfl
          have hfz226_0 := blk_frozen BK378.out 0
          have hfz226_1 := blk_frozen BK378.out 1
          have hfz226_2 := blk_frozen BK378.out 2
          have hfz226_3 := blk_frozen BK378.out 3
          have hfz226_4 := blk_frozen BK378.out 4
          have hfz226_5 := blk_frozen BK378.out 5
          have hfz226_6 := blk_frozen BK378.out 6
          have hfz226_7 := blk_frozen BK378.out 7
          go_wp2_with (first | ((with_reducible refine gate_callee (f := 58) rfl ?_); refine goesL_ (some 77) rfl rfl Try.func58 (by kernel_rfl) rfl #[.agg #[.int .i64 t361, .int .i64 t362, .int .i64 t363, .int .i64 t364, .int .i64 t365, .int .i64 t366, .int .i64 t367, .int .i64 t368], .agg #[.int .i64 t369, .int .i64 t370, .int .i64 t371, .int .i64 t372, .int .i64 t373, .int .i64 t374, .int .i64 t375, .int .i64 t376]] rfl (by (try simp only [List.map_toArray, List.map_cons, List.map_nil]); first | done | rfl | (simp only [List.length_drop, List.length_take]; rfl)) ?_; (with_reducible refine (impl_IsBefore.calls kj122 t361 t362 t363 t364 t365 t366 t367 t368 t369 t370 t371 t372 t373 t374 t375 t376 false _ A188.out).mono ?_); rintro e w227 ⟨rfl, hb⟩; refine ⟨_, rfl, ?_⟩; replace BK377 := am (blk_below (bB BK377.out) hb); replace BK378 := am (blk_below (bB BK378.out) hb); replace BK399 := am (blk_below (bB BK399.out) hb); replace BK400 := am (blk_below (bB BK400.out) hb); replace HB := am (below_step (sB HB.out) hb); (try clear hb); (try clear hb2); (try clear hk); (try clear hi)))
          go_meet
          case rel => exact ⟨_, (false), (by first | rfl | (simp; done) | (simp [*]; done)), H', ⟨by have := HJ4.out; have := HJ122.out; first | omega | exact Nat.le_refl _⟩, ⟨bB BK377.out⟩, ⟨bB BK378.out⟩, ⟨bB BK399.out⟩, ⟨bB BK400.out⟩, ⟨sB HB.out⟩⟩
        case rest =>
         clear HC187
         try clear c1
         try clear c2
         try clear p2
         try clear c5
         try clear c18
         try clear c19
         try clear c20
         try clear c21
         try clear c22
         try clear c58
         try clear c186
         try clear c189
         try clear c191
         try clear c193
         try clear c194
         try clear c195
         try clear c197
         try clear c198
         try clear c202
         try clear c208
         try clear c209
         try clear c210
         try clear c212
         try clear c213
         try clear c217
         try clear c220
         try clear c221
         try clear c222
         try clear c224
         try clear c225
         try clear hcz196_0 hcz196_1 hcz196_2 hcz196_3 hcz196_4 hcz196_5 hcz196_6 hcz196_7
         try clear hcz199_0 hcz199_1 hcz199_2 hcz199_3 hcz199_4 hcz199_5 hcz199_6 hcz199_7
         try clear hcz201_0 hcz201_1 hcz201_2 hcz201_3 hcz201_4 hcz201_5 hcz201_6 hcz201_7
         try clear hcz203_0 hcz203_1 hcz203_2 hcz203_3 hcz203_4 hcz203_5 hcz203_6 hcz203_7
         try clear hcz205_0 hcz205_1 hcz205_2 hcz205_3 hcz205_4 hcz205_5 hcz205_6 hcz205_7
         try clear hcz206_0 hcz206_1 hcz206_2 hcz206_3 hcz206_4 hcz206_5 hcz206_6 hcz206_7
         try clear hcz211_0 hcz211_1 hcz211_2 hcz211_3 hcz211_4 hcz211_5 hcz211_6 hcz211_7
         try clear hcz214_0 hcz214_1 hcz214_2 hcz214_3 hcz214_4 hcz214_5 hcz214_6 hcz214_7
         try clear hcz216_0 hcz216_1 hcz216_2 hcz216_3 hcz216_4 hcz216_5 hcz216_6 hcz216_7
         try clear hcz218_0 hcz218_1 hcz218_2 hcz218_3 hcz218_4 hcz218_5 hcz218_6 hcz218_7
         try clear hcz223_0 hcz223_1 hcz223_2 hcz223_3 hcz223_4 hcz223_5 hcz223_6 hcz223_7
         try clear hcz226_0 hcz226_1 hcz226_2 hcz226_3 hcz226_4 hcz226_5 hcz226_6 hcz226_7
         try clear hfz154_0 hfz154_1 hfz154_2
         try clear hfz159_0 hfz159_1 hfz159_2 hfz159_3 hfz159_4 hfz159_5 hfz159_6 hfz159_7
         try clear hfz15_0 hfz15_1 hfz15_2 hfz15_3 hfz15_4 hfz15_5 hfz15_6 hfz15_7
         try clear hfz162_0 hfz162_1 hfz162_2
         try clear hfz164_0 hfz164_1 hfz164_2 hfz164_3 hfz164_4 hfz164_5 hfz164_6 hfz164_7
         try clear hfz166_0 hfz166_1 hfz166_2
         try clear hfz171_0 hfz171_1 hfz171_2 hfz171_3 hfz171_4 hfz171_5 hfz171_6 hfz171_7
         try clear hfz174_0 hfz174_1 hfz174_2
         try clear hfz176_0 hfz176_1 hfz176_2 hfz176_3 hfz176_4 hfz176_5 hfz176_6 hfz176_7
         try clear hfz181_0 hfz181_1 hfz181_2 hfz181_3 hfz181_4 hfz181_5 hfz181_6 hfz181_7
         try clear hfz184_0 hfz184_1 hfz184_2
         try clear hfz196_0 hfz196_1 hfz196_2 hfz196_3 hfz196_4 hfz196_5 hfz196_6 hfz196_7
         try clear hfz199_0 hfz199_1 hfz199_2 hfz199_3 hfz199_4 hfz199_5 hfz199_6 hfz199_7
         try clear hfz201_0 hfz201_1 hfz201_2 hfz201_3 hfz201_4 hfz201_5 hfz201_6 hfz201_7
         try clear hfz203_0 hfz203_1 hfz203_2 hfz203_3 hfz203_4 hfz203_5 hfz203_6 hfz203_7
         try clear hfz205_0 hfz205_1 hfz205_2 hfz205_3 hfz205_4 hfz205_5 hfz205_6 hfz205_7
         try clear hfz206_0 hfz206_1 hfz206_2 hfz206_3 hfz206_4 hfz206_5 hfz206_6 hfz206_7
         try clear hfz211_0 hfz211_1 hfz211_2 hfz211_3 hfz211_4 hfz211_5 hfz211_6 hfz211_7
         try clear hfz214_0 hfz214_1 hfz214_2 hfz214_3 hfz214_4 hfz214_5 hfz214_6 hfz214_7
         try clear hfz216_0 hfz216_1 hfz216_2 hfz216_3 hfz216_4 hfz216_5 hfz216_6 hfz216_7
         try clear hfz218_0 hfz218_1 hfz218_2 hfz218_3 hfz218_4 hfz218_5 hfz218_6 hfz218_7
         try clear hfz223_0 hfz223_1 hfz223_2 hfz223_3 hfz223_4 hfz223_5 hfz223_6 hfz223_7
         try clear hfz226_0 hfz226_1 hfz226_2 hfz226_3 hfz226_4 hfz226_5 hfz226_6 hfz226_7
         try clear hfz22_0 hfz22_1 hfz22_2 hfz22_3 hfz22_4 hfz22_5 hfz22_6 hfz22_7
         try clear hfz24_0 hfz24_1 hfz24_2 hfz24_3 hfz24_4 hfz24_5 hfz24_6 hfz24_7
         try clear hfz25_0 hfz25_1 hfz25_2 hfz25_3 hfz25_4 hfz25_5 hfz25_6 hfz25_7
         try clear hfz27_0 hfz27_1 hfz27_2 hfz27_3 hfz27_4 hfz27_5 hfz27_6 hfz27_7
         try clear hfz28_0 hfz28_1 hfz28_2 hfz28_3 hfz28_4 hfz28_5 hfz28_6 hfz28_7
         try clear hfz33_0 hfz33_1 hfz33_2 hfz33_3 hfz33_4 hfz33_5 hfz33_6 hfz33_7
         try clear hfz35_0 hfz35_1 hfz35_2 hfz35_3 hfz35_4 hfz35_5 hfz35_6 hfz35_7
         try clear hfz36_0 hfz36_1 hfz36_2 hfz36_3 hfz36_4 hfz36_5 hfz36_6 hfz36_7
         try clear hfz38_0 hfz38_1 hfz38_2 hfz38_3 hfz38_4 hfz38_5 hfz38_6 hfz38_7
         try clear hfz39_0 hfz39_1 hfz39_2 hfz39_3 hfz39_4 hfz39_5 hfz39_6 hfz39_7
         try clear hfz41_0 hfz41_1 hfz41_2 hfz41_3 hfz41_4 hfz41_5 hfz41_6 hfz41_7
         try clear hfz42_0 hfz42_1 hfz42_2 hfz42_3 hfz42_4 hfz42_5 hfz42_6 hfz42_7
         try clear hfz47_0 hfz47_1 hfz47_2 hfz47_3 hfz47_4 hfz47_5 hfz47_6 hfz47_7
         try clear hfz49_0 hfz49_1 hfz49_2 hfz49_3 hfz49_4 hfz49_5 hfz49_6 hfz49_7
         try clear hfz50_0 hfz50_1 hfz50_2 hfz50_3 hfz50_4 hfz50_5 hfz50_6 hfz50_7
         try clear hfz52_0 hfz52_1 hfz52_2 hfz52_3 hfz52_4 hfz52_5 hfz52_6 hfz52_7
         try clear hfz53_0 hfz53_1 hfz53_2 hfz53_3 hfz53_4 hfz53_5 hfz53_6 hfz53_7
         try clear hfz55_0 hfz55_1 hfz55_2 hfz55_3 hfz55_4 hfz55_5 hfz55_6 hfz55_7
         try clear hfz56_0 hfz56_1 hfz56_2 hfz56_3 hfz56_4 hfz56_5 hfz56_6 hfz56_7
         try clear hfz58_0 hfz58_1 hfz58_2 hfz58_3 hfz58_4 hfz58_5 hfz58_6 hfz58_7
         try clear hfz59_0 hfz59_1 hfz59_2 hfz59_3 hfz59_4 hfz59_5 hfz59_6 hfz59_7
         try clear hfz63_0 hfz63_1 hfz63_2 hfz63_3 hfz63_4 hfz63_5 hfz63_6 hfz63_7
         try clear hfz65_0 hfz65_1 hfz65_2 hfz65_3 hfz65_4 hfz65_5 hfz65_6 hfz65_7
         try clear hfz66_0 hfz66_1 hfz66_2 hfz66_3 hfz66_4 hfz66_5 hfz66_6 hfz66_7
         try clear hfz68_0 hfz68_1 hfz68_2 hfz68_3 hfz68_4 hfz68_5 hfz68_6 hfz68_7
         try clear hfz69_0 hfz69_1 hfz69_2 hfz69_3 hfz69_4 hfz69_5 hfz69_6 hfz69_7
         try clear hfz71_0 hfz71_1 hfz71_2 hfz71_3 hfz71_4 hfz71_5 hfz71_6 hfz71_7
         try clear hfz72_0 hfz72_1 hfz72_2 hfz72_3 hfz72_4 hfz72_5 hfz72_6 hfz72_7
         try clear hfz74_0 hfz74_1 hfz74_2 hfz74_3 hfz74_4 hfz74_5 hfz74_6 hfz74_7
         try clear hfz75_0 hfz75_1 hfz75_2 hfz75_3 hfz75_4 hfz75_5 hfz75_6 hfz75_7
         try clear hfz77_0 hfz77_1 hfz77_2 hfz77_3 hfz77_4 hfz77_5 hfz77_6 hfz77_7
         try clear hfz78_0 hfz78_1 hfz78_2 hfz78_3 hfz78_4 hfz78_5 hfz78_6 hfz78_7
         try clear hfz83_0 hfz83_1 hfz83_2 hfz83_3 hfz83_4 hfz83_5 hfz83_6 hfz83_7
         try clear hfz85_0 hfz85_1 hfz85_2 hfz85_3 hfz85_4 hfz85_5 hfz85_6 hfz85_7
         try clear hfz86_0 hfz86_1 hfz86_2 hfz86_3 hfz86_4 hfz86_5 hfz86_6 hfz86_7
         try clear hfz88_0 hfz88_1 hfz88_2 hfz88_3 hfz88_4 hfz88_5 hfz88_6 hfz88_7
         try clear hfz89_0 hfz89_1 hfz89_2 hfz89_3 hfz89_4 hfz89_5 hfz89_6 hfz89_7
         try clear hfz94_0 hfz94_1 hfz94_2 hfz94_3 hfz94_4 hfz94_5 hfz94_6 hfz94_7
         try clear hfz96_0 hfz96_1 hfz96_2 hfz96_3 hfz96_4 hfz96_5 hfz96_6 hfz96_7
         try clear hfz97_0 hfz97_1 hfz97_2 hfz97_3 hfz97_4 hfz97_5 hfz97_6 hfz97_7
         try clear hfz99_0 hfz99_1 hfz99_2 hfz99_3 hfz99_4 hfz99_5 hfz99_6 hfz99_7
         obtain ⟨kq, x88_186, rfl, HA, HJ186, BK377, BK378, BK399, BK400, HB⟩ := hcut
         cases kq with
         | zero => exact absurd HA.out (by simp [laws_FnRules.j2])
         | succ kj186 =>
          have H := HA.out
          clear HA
          simp only [laws_FnRules.j2] at H
          by_cases c228 : x88_186 = true
          ·subst c228
           have H1 : (some false) = some r := by rw [if_pos rfl] at H; exact H
           clear H
           have H := H1
           clear H1
           exact absurd ((Option.some.inj H).trans HRT.out) (by decide)
          ·replace c228 := Bool.eq_false_iff.mpr c228
           subst c228
           have H1 : ((spec_DrawRulesOf.f kj186 l0).bind fun bt408 => ((impl_RulesOf.f kj186 bt408.1 bt408.2).bind fun t412 => (laws_FnRules.l0 kj186 bt408.2 t412 0 t388 t389 t390 t391 t392 t393 t394 t395))) = some r := by rw [if_neg (show ¬ (false = true) by decide)] at H; exact H
           clear H
           have H := H1
           clear H1
           replace H := Option.bind_eq_some_iff.mp H
           obtain ⟨⟨t408, t409⟩, A2290, H⟩ := H
           replace H : ((impl_RulesOf.f kj186 t408 t409).bind fun t412 => (laws_FnRules.l0 kj186 t409 t412 0 t388 t389 t390 t391 t392 t393 t394 t395)) = some r := H
           have A229 := Aside0.mk A2290
           clear A2290
           replace H := Option.bind_eq_some_iff.mp H
           obtain ⟨t412, A2300, H⟩ := H
           replace H : (laws_FnRules.l0 kj186 t409 t412 0 t388 t389 t390 t391 t392 t393 t394 t395) = some r := H
           have A230 := Aside0.mk A2300
           clear A2300
           have H' := Aside0.mk H
           clear H
           go_wp2_with (first | ((with_reducible refine gate_callee (f := 64) rfl ?_); refine goesL_ (some 91) rfl rfl Try.func64 (by kernel_rfl) rfl #[.slice A0 l0.length c0] rfl (by (try simp only [List.map_toArray, List.map_cons, List.map_nil]); first | done | rfl | (simp only [List.length_drop, List.length_take]; rfl)) ?_; (with_reducible refine (spec_DrawRulesOf.calls kj186 _ _ l0 t408 t409 _ ?side1 ?side2 A229.out).mono ?_); (case side1 => exact cB ((Kd.C_below HR0.out HB.out))); (case side2 => exact HC0.out); rintro e w231 ⟨v410, rfl, ho0, hb⟩; refine ⟨_, rfl, ?_⟩; have n0_ := am (Kd.R_lower (Kd.R_newB (Kd.R_newB (Kd.R_newB ho0 (g := gb377) (o := .cells #[.int .i64 t361, .int .i64 t362, .int .i64 t363, .int .i64 t364, .int .i64 t365, .int .i64 t366, .int .i64 t367, .int .i64 t368] 35 (0, 0)) (bB BK377.out)) (g := gb378) (o := .cells #[.int .i64 t369, .int .i64 t370, .int .i64 t371, .int .i64 t372, .int .i64 t373, .int .i64 t374, .int .i64 t375, .int .i64 t376] 35 (0, 0)) (bB BK378.out)) (g := gb399) (o := .cells #[.int .i64 t388, .int .i64 t389, .int .i64 t390, .int .i64 t391, .int .i64 t392, .int .i64 t393, .int .i64 t394, .int .i64 t395] 35 (0, 0)) (bB BK399.out)) (below_size (sB HB.out))); have n1_ := am (blk_below (bB BK377.out) hb); have n2_ := am (blk_below (bB BK378.out) hb); have n3_ := am (blk_below (bB BK399.out) hb); have n4_ := am (blk_below (bB BK400.out) hb); have n5_ := am (below_step (sB HB.out) hb); clear BK377; clear BK378; clear BK399; clear BK400; clear HB; have HO411 := n0_; have BK377 := n1_; have BK378 := n2_; have BK399 := n3_; have BK400 := n4_; have HB := n5_; clear n0_ n1_ n2_ n3_ n4_ n5_; (try clear hb); (try clear hb2); (try clear hk); (try clear hi); (try clear ho0); obtain ⟨Ao232, co232, eo232⟩ := Kd.R_slice HO411.out; subst eo232) | ((with_reducible refine gate_callee (f := 56) rfl ?_); refine goesL_ (some 96) rfl rfl Try.func56 (by kernel_rfl) rfl #[.slice Ao232 t408.length co232, .int .i64 t409] rfl (by (try simp only [List.map_toArray, List.map_cons, List.map_nil]); first | done | rfl | (simp only [List.length_drop, List.length_take]; rfl)) ?_; (with_reducible refine (impl_RulesOf.calls kj186 _ _ t408 t409 t412 _ ?side1 ?side2 A230.out).mono ?_); (case side1 => exact cB ((Kd.R_reads' HO411.out).2.2)); (case side2 => exact (Kd.R_reads' HO411.out).2.1); rintro e w233 ⟨v413, rfl, ho0, hb⟩; refine ⟨_, rfl, ?_⟩; have n0_ := am (Kd.R_elder' (rB HO411.out) (Kd.R_base ho0) hb); have n1_ := am (Kd.R_lower (Kd.R_newB (Kd.R_newB (Kd.R_newB (Kd.R_new' ho0 (Kd.R_lt (rB HO411.out))) (g := gb377) (o := .cells #[.int .i64 t361, .int .i64 t362, .int .i64 t363, .int .i64 t364, .int .i64 t365, .int .i64 t366, .int .i64 t367, .int .i64 t368] 35 (0, 0)) (bB BK377.out)) (g := gb378) (o := .cells #[.int .i64 t369, .int .i64 t370, .int .i64 t371, .int .i64 t372, .int .i64 t373, .int .i64 t374, .int .i64 t375, .int .i64 t376] 35 (0, 0)) (bB BK378.out)) (g := gb399) (o := .cells #[.int .i64 t388, .int .i64 t389, .int .i64 t390, .int .i64 t391, .int .i64 t392, .int .i64 t393, .int .i64 t394, .int .i64 t395] 35 (0, 0)) (bB BK399.out)) (below_size (sB HB.out))); have n2_ := am (blk_below (bB BK377.out) hb); have n3_ := am (blk_below (bB BK378.out) hb); have n4_ := am (blk_below (bB BK399.out) hb); have n5_ := am (blk_below (bB BK400.out) hb); have n6_ := am (below_step (sB HB.out) hb); clear HO411; clear BK377; clear BK378; clear BK399; clear BK400; clear HB; have HO411 := n0_; have HO414 := n1_; have BK377 := n2_; have BK378 := n3_; have BK399 := n4_; have BK400 := n5_; have HB := n6_; clear n0_ n1_ n2_ n3_ n4_ n5_ n6_; (try clear hb); (try clear hb2); (try clear hk); (try clear hi); (try clear ho0)))
           go_loopg [10] kj186 (fun kq v10 w' => ∃ (x10_4 : Int), v10 = .int .i64 x10_4 ∧ Aside0 (laws_FnRules.l0 kq t409 t412 x10_4 t388 t389 t390 t391 t392 t393 t394 t395 = some r) ∧ Aside0 (kq ≤ kj186) ∧ Aside0 (Kd.R k35 35 w' w.heap.size (fun k_ => k_ ≠ gb377 ∧ k_ ≠ gb378 ∧ k_ ≠ gb399) v413 t412) ∧ Aside0 (w'.heap[gb377]? = some (.cells #[.int .i64 t361, .int .i64 t362, .int .i64 t363, .int .i64 t364, .int .i64 t365, .int .i64 t366, .int .i64 t367, .int .i64 t368] 35 (0, 0))) ∧ Aside0 (w'.heap[gb378]? = some (.cells #[.int .i64 t369, .int .i64 t370, .int .i64 t371, .int .i64 t372, .int .i64 t373, .int .i64 t374, .int .i64 t375, .int .i64 t376] 35 (0, 0))) ∧ Aside0 (w'.heap[gb399]? = some (.cells #[.int .i64 t388, .int .i64 t389, .int .i64 t390, .int .i64 t391, .int .i64 t392, .int .i64 t393, .int .i64 t394, .int .i64 t395] 35 (0, 0))) ∧ Aside0 (w'.heap[gb400]? = some (.cells #[.int .i64 t396, .int .i64 t397, .int .i64 t398] 86 (0, 0))) ∧ Aside0 (Below w.heap.size w w'))
           case atStart => exact ⟨(0), (by first | rfl | (simp; done) | (simp [*]; done)), H', ⟨Nat.le_refl _⟩, ⟨by (with_reducible repeat (first | apply Kd.R_alloc | apply Kd.R_drewN | apply Kd.R_drew)); exact Kd.R_mono HO414.out (fun _ hk => ⟨hk.1.1.2, ⟨hk.1.2, hk.2⟩⟩)⟩, ⟨bB BK377.out⟩, ⟨bB BK378.out⟩, ⟨bB BK399.out⟩, ⟨bB BK400.out⟩, ⟨sB HB.out⟩⟩
           case round =>
            clear H'
            try clear c2
            try clear p2
            try clear c5
            try clear c6
            try clear c22
            try clear c56
            try clear c64
            try clear c228
            try clear hcz201_4 hcz201_5 hcz201_6 hcz201_7
            try clear hcz203_0 hcz203_1 hcz203_2 hcz203_3 hcz203_4 hcz203_5 hcz203_6 hcz203_7
            try clear hcz205_0 hcz205_1 hcz205_2 hcz205_3 hcz205_4 hcz205_5 hcz205_6 hcz205_7
            try clear hcz206_0 hcz206_1 hcz206_2 hcz206_3 hcz206_4 hcz206_5 hcz206_6 hcz206_7
            try clear hcz211_0 hcz211_1 hcz211_2 hcz211_3 hcz211_4 hcz211_5 hcz211_6 hcz211_7
            try clear hcz214_0 hcz214_1 hcz214_2 hcz214_3 hcz214_4 hcz214_5 hcz214_6 hcz214_7
            try clear hcz216_0 hcz216_1 hcz216_2 hcz216_3 hcz216_4 hcz216_5 hcz216_6 hcz216_7
            try clear hcz218_0 hcz218_1 hcz218_2 hcz218_3 hcz218_4 hcz218_5 hcz218_6 hcz218_7
            try clear hcz223_0 hcz223_1 hcz223_2 hcz223_3 hcz223_4 hcz223_5 hcz223_6 hcz223_7
            try clear hcz226_0 hcz226_1 hcz226_2 hcz226_3 hcz226_4 hcz226_5 hcz226_6 hcz226_7
            try clear hfz154_0 hfz154_1 hfz154_2
            try clear hfz159_0 hfz159_1 hfz159_2 hfz159_3 hfz159_4 hfz159_5 hfz159_6 hfz159_7
            try clear hfz15_0 hfz15_1 hfz15_2 hfz15_3 hfz15_4 hfz15_5 hfz15_6 hfz15_7
            try clear hfz162_0 hfz162_1 hfz162_2
            try clear hfz164_0 hfz164_1 hfz164_2 hfz164_3 hfz164_4 hfz164_5 hfz164_6 hfz164_7
            try clear hfz166_0 hfz166_1 hfz166_2
            try clear hfz171_0 hfz171_1 hfz171_2 hfz171_3 hfz171_4 hfz171_5 hfz171_6 hfz171_7
            try clear hfz174_0 hfz174_1 hfz174_2
            try clear hfz176_0 hfz176_1 hfz176_2 hfz176_3 hfz176_4 hfz176_5 hfz176_6 hfz176_7
            try clear hfz181_0 hfz181_1 hfz181_2 hfz181_3 hfz181_4 hfz181_5 hfz181_6 hfz181_7
            try clear hfz184_0 hfz184_1 hfz184_2
            try clear hfz196_0 hfz196_1 hfz196_2 hfz196_3 hfz196_4 hfz196_5 hfz196_6 hfz196_7
            try clear hfz199_0 hfz199_1 hfz199_2 hfz199_3 hfz199_4 hfz199_5 hfz199_6 hfz199_7
            try clear hfz201_0 hfz201_1 hfz201_2 hfz201_3 hfz201_4 hfz201_5 hfz201_6 hfz201_7
            try clear hfz203_0 hfz203_1 hfz203_2 hfz203_3 hfz203_4 hfz203_5 hfz203_6 hfz203_7
            try clear hfz205_0 hfz205_1 hfz205_2 hfz205_3 hfz205_4 hfz205_5 hfz205_6 hfz205_7
            try clear hfz206_0 hfz206_1 hfz206_2 hfz206_3 hfz206_4 hfz206_5 hfz206_6 hfz206_7
            try clear hfz211_0 hfz211_1 hfz211_2 hfz211_3 hfz211_4 hfz211_5 hfz211_6 hfz211_7
            try clear hfz214_0 hfz214_1 hfz214_2 hfz214_3 hfz214_4 hfz214_5 hfz214_6 hfz214_7
            try clear hfz216_0 hfz216_1 hfz216_2 hfz216_3 hfz216_4 hfz216_5 hfz216_6 hfz216_7
            try clear hfz218_0 hfz218_1 hfz218_2 hfz218_3 hfz218_4 hfz218_5 hfz218_6 hfz218_7
            try clear hfz223_0 hfz223_1 hfz223_2 hfz223_3 hfz223_4 hfz223_5 hfz223_6 hfz223_7
            try clear hfz226_0 hfz226_1 hfz226_2 hfz226_3 hfz226_4 hfz226_5 hfz226_6 hfz226_7
            try clear hfz22_0 hfz22_1 hfz22_2 hfz22_3 hfz22_4 hfz22_5 hfz22_6 hfz22_7
            try clear hfz24_0 hfz24_1 hfz24_2 hfz24_3 hfz24_4 hfz24_5 hfz24_6 hfz24_7
            try clear hfz25_0 hfz25_1 hfz25_2 hfz25_3 hfz25_4 hfz25_5 hfz25_6 hfz25_7
            try clear hfz27_0 hfz27_1 hfz27_2 hfz27_3 hfz27_4 hfz27_5 hfz27_6 hfz27_7
            try clear hfz28_0 hfz28_1 hfz28_2 hfz28_3 hfz28_4 hfz28_5 hfz28_6 hfz28_7
            try clear hfz33_0 hfz33_1 hfz33_2 hfz33_3 hfz33_4 hfz33_5 hfz33_6 hfz33_7
            try clear hfz35_0 hfz35_1 hfz35_2 hfz35_3 hfz35_4 hfz35_5 hfz35_6 hfz35_7
            try clear hfz36_0 hfz36_1 hfz36_2 hfz36_3 hfz36_4 hfz36_5 hfz36_6 hfz36_7
            try clear hfz38_0 hfz38_1 hfz38_2 hfz38_3 hfz38_4 hfz38_5 hfz38_6 hfz38_7
            try clear hfz39_0 hfz39_1 hfz39_2 hfz39_3 hfz39_4 hfz39_5 hfz39_6 hfz39_7
            try clear hfz41_0 hfz41_1 hfz41_2 hfz41_3 hfz41_4 hfz41_5 hfz41_6 hfz41_7
            try clear hfz42_0 hfz42_1 hfz42_2 hfz42_3 hfz42_4 hfz42_5 hfz42_6 hfz42_7
            try clear hfz47_0 hfz47_1 hfz47_2 hfz47_3 hfz47_4 hfz47_5 hfz47_6 hfz47_7
            try clear hfz49_0 hfz49_1 hfz49_2 hfz49_3 hfz49_4 hfz49_5 hfz49_6 hfz49_7
            try clear hfz50_0 hfz50_1 hfz50_2 hfz50_3 hfz50_4 hfz50_5 hfz50_6 hfz50_7
            try clear hfz52_0 hfz52_1 hfz52_2 hfz52_3 hfz52_4 hfz52_5 hfz52_6 hfz52_7
            try clear hfz53_0 hfz53_1 hfz53_2 hfz53_3 hfz53_4 hfz53_5 hfz53_6 hfz53_7
            try clear hfz55_0 hfz55_1 hfz55_2 hfz55_3 hfz55_4 hfz55_5 hfz55_6 hfz55_7
            try clear hfz56_0 hfz56_1 hfz56_2 hfz56_3 hfz56_4 hfz56_5 hfz56_6 hfz56_7
            try clear hfz58_0 hfz58_1 hfz58_2 hfz58_3 hfz58_4 hfz58_5 hfz58_6 hfz58_7
            try clear hfz59_0 hfz59_1 hfz59_2 hfz59_3 hfz59_4 hfz59_5 hfz59_6 hfz59_7
            try clear hfz63_0 hfz63_1 hfz63_2 hfz63_3 hfz63_4 hfz63_5 hfz63_6 hfz63_7
            try clear hfz65_0 hfz65_1 hfz65_2 hfz65_3 hfz65_4 hfz65_5 hfz65_6 hfz65_7
            try clear hfz66_0 hfz66_1 hfz66_2 hfz66_3 hfz66_4 hfz66_5 hfz66_6 hfz66_7
            try clear hfz68_0 hfz68_1 hfz68_2 hfz68_3 hfz68_4 hfz68_5 hfz68_6 hfz68_7
            try clear hfz69_0 hfz69_1 hfz69_2 hfz69_3 hfz69_4 hfz69_5 hfz69_6 hfz69_7
            try clear hfz71_0 hfz71_1 hfz71_2 hfz71_3 hfz71_4 hfz71_5 hfz71_6 hfz71_7
            try clear hfz72_0 hfz72_1 hfz72_2 hfz72_3 hfz72_4 hfz72_5 hfz72_6 hfz72_7
            try clear hfz74_0 hfz74_1 hfz74_2 hfz74_3 hfz74_4 hfz74_5 hfz74_6 hfz74_7
            try clear hfz75_0 hfz75_1 hfz75_2 hfz75_3 hfz75_4 hfz75_5 hfz75_6 hfz75_7
            try clear hfz77_0 hfz77_1 hfz77_2 hfz77_3 hfz77_4 hfz77_5 hfz77_6 hfz77_7
            try clear hfz78_0 hfz78_1 hfz78_2 hfz78_3 hfz78_4 hfz78_5 hfz78_6 hfz78_7
            try clear hfz83_0 hfz83_1 hfz83_2 hfz83_3 hfz83_4 hfz83_5 hfz83_6 hfz83_7
            try clear hfz85_0 hfz85_1 hfz85_2 hfz85_3 hfz85_4 hfz85_5 hfz85_6 hfz85_7
            try clear hfz86_0 hfz86_1 hfz86_2 hfz86_3 hfz86_4 hfz86_5 hfz86_6 hfz86_7
            try clear hfz88_0 hfz88_1 hfz88_2 hfz88_3 hfz88_4 hfz88_5 hfz88_6 hfz88_7
            try clear hfz89_0 hfz89_1 hfz89_2 hfz89_3 hfz89_4 hfz89_5 hfz89_6 hfz89_7
            try clear hfz94_0 hfz94_1 hfz94_2 hfz94_3 hfz94_4 hfz94_5 hfz94_6 hfz94_7
            try clear hfz96_0 hfz96_1 hfz96_2 hfz96_3 hfz96_4 hfz96_5 hfz96_6 hfz96_7
            try clear hfz97_0 hfz97_1 hfz97_2 hfz97_3 hfz97_4 hfz97_5 hfz97_6 hfz97_7
            try clear hfz99_0 hfz99_1 hfz99_2 hfz99_3 hfz99_4 hfz99_5 hfz99_6 hfz99_7
            obtain ⟨x10_4, rfl, HA, HK4, HO_9, BK377, BK378, BK399, BK400, HB⟩ := hrel
            cases gk with
            | zero => exact absurd HA.out (by simp [laws_FnRules.l0])
            | succ k4 =>
             have H := HA.out
             clear HA
             simp only [laws_FnRules.l0] at H
             by_cases c234 : x10_4 < (t412.length : Int)
             ·rw [if_pos c234] at H
              have c234b0 : decide (x10_4 < (t412.length : Int)) = true := decide_eq_true c234
              clear c234
              by_cases c235 : 0 ≤ x10_4
              ·rw [if_pos c235] at H
               have c235b0 : decide (0 ≤ x10_4) = true := decide_eq_true c235
               clear c235
               by_cases c236 : ((rd_T35 t412 x10_4).f0) = t409
               ·rw [if_pos c236] at H
                have c236b0 : (((rd_T35 t412 x10_4).f0) == t409) = true := beq_iff_eq.mpr c236
                have c236b1 : (((rd_T35 t412 x10_4).f0) != t409) = false := bne_eq_false_iff_eq.mpr c236
                clear c236
                have H' := Aside0.mk H
                clear H
                obtain ⟨Ao237, co237, eo237⟩ := Kd.R_slice HO_9.out
                subst eo237
                have p415 : 0 ≤ (x10_4 : Int) := of_decide_eq_true (by first | (with_reducible assumption) | assumption)
                have q415 : x10_4 < (t412.length : Int) := of_decide_eq_true (by first | (with_reducible assumption) | assumption)
                obtain ⟨ad415, e415, hx415_0, hx415_1, hx415_2, hx415_3, hx415_4, hx415_5, hx415_6, hx415_7⟩ := at_T35 (Kd.R_reads' HO_9.out).2.2 x10_4 p415 q415
                cases e415
                replace p415 := eq_true p415
                replace q415 := eq_true q415
                go_wp2
                go_roundg k4
                case measure => have := HJ4.out; have := HJ122.out; have := HJ186.out; have := HK4.out; omega
                case rel => exact ⟨(wrap64 (x10_4 + 1)), (by first | rfl | (simp; done) | (simp [*]; done)), H', ⟨by have := HJ4.out; have := HJ122.out; have := HJ186.out; have := HK4.out; omega⟩, ⟨by (with_reducible repeat (first | apply Kd.R_alloc | apply Kd.R_drewN | apply Kd.R_drew)); exact HO_9.out⟩, ⟨bB BK377.out⟩, ⟨bB BK378.out⟩, ⟨bB BK399.out⟩, ⟨bB BK400.out⟩, ⟨sB HB.out⟩⟩
               ·rw [if_neg c236] at H
                have c236b0 : (((rd_T35 t412 x10_4).f0) == t409) = false := beq_eq_false_iff_ne.mpr c236
                have c236b1 : (((rd_T35 t412 x10_4).f0) != t409) = true := bne_iff_ne.mpr c236
                exact absurd ((Option.some.inj H).trans HRT.out) (by decide)
              ·rw [if_neg c235] at H
               exact absurd H (by simp)
             ·rw [if_neg c234] at H
              have c234b0 : decide (x10_4 < (t412.length : Int)) = false := decide_eq_false c234
              clear c234
              replace H := Option.bind_eq_some_iff.mp H
              obtain ⟨t416, A2380, H⟩ := H
              replace H : (if t416 = true then ((impl_ActionName.f t393).bind fun t417 => (some (t417.toList != ([] : List UInt8)))) else (some true)) = some r := H
              have A238 := Aside0.mk A2380
              clear A2380
              by_cases c239 : t416 = true
              ·subst c239
               have H1 : ((impl_ActionName.f t393).bind fun t417 => (some (t417.toList != ([] : List UInt8)))) = some r := by rw [if_pos rfl] at H; exact H
               clear H
               have H := H1
               clear H1
               replace H := Option.bind_eq_some_iff.mp H
               obtain ⟨t417, A2400, H⟩ := H
               replace H : (some (t417.toList != ([] : List UInt8))) = some r := H
               have A240 := Aside0.mk A2400
               clear A2400
               obtain rfl := Option.some.inj H
               obtain ⟨Ao241, co241, eo241⟩ := Kd.R_slice HO_9.out
               subst eo241
               have hnb242 := NB399_377.out
               have hnc242 := NB377_399.out
               have hnb243 := NB399_378.out
               have hnc243 := NB378_399.out
               have hnb244 := NB399_400.out
               have hnc244 := NB400_399.out
               have hcz245_0 : wr.cell? ⟨gb399, 0, none⟩ = some (.int .i64 t388) := (blk_cell BK399.out 0).trans rfl
               have hcz245_1 : wr.cell? ⟨gb399, 1, none⟩ = some (.int .i64 t389) := (blk_cell BK399.out 1).trans rfl
               have hcz245_2 : wr.cell? ⟨gb399, 2, none⟩ = some (.int .i64 t390) := (blk_cell BK399.out 2).trans rfl
               have hcz245_3 : wr.cell? ⟨gb399, 3, none⟩ = some (.int .i64 t391) := (blk_cell BK399.out 3).trans rfl
               have hcz245_4 : wr.cell? ⟨gb399, 4, none⟩ = some (.int .i64 t392) := (blk_cell BK399.out 4).trans rfl
               have hcz245_5 : wr.cell? ⟨gb399, 5, none⟩ = some (.int .i64 t393) := (blk_cell BK399.out 5).trans rfl
               have hcz245_6 : wr.cell? ⟨gb399, 6, none⟩ = some (.int .i64 t394) := (blk_cell BK399.out 6).trans rfl
               have hcz245_7 : wr.cell? ⟨gb399, 7, none⟩ = some (.int .i64 t395) := (blk_cell BK399.out 7).trans rfl
               have hfz245_0 := blk_frozen BK399.out 0
               have hfz245_1 := blk_frozen BK399.out 1
               have hfz245_2 := blk_frozen BK399.out 2
               have hfz245_3 := blk_frozen BK399.out 3
               have hfz245_4 := blk_frozen BK399.out 4
               have hfz245_5 := blk_frozen BK399.out 5
               have hfz245_6 := blk_frozen BK399.out 6
               have hfz245_7 := blk_frozen BK399.out 7
               go_wp2_with (first | ((with_reducible refine gate_callee (f := 62) rfl ?_); refine goesL_ (some 111) rfl rfl Try.func62 (by kernel_rfl) rfl #[.agg #[.int .i64 t388, .int .i64 t389, .int .i64 t390, .int .i64 t391, .int .i64 t392, .int .i64 t393, .int .i64 t394, .int .i64 t395]] rfl (by (try simp only [List.map_toArray, List.map_cons, List.map_nil]); first | done | rfl | (simp only [List.length_drop, List.length_take]; rfl)) ?_; (with_reducible refine (impl_IsRule.calls k4 t388 t389 t390 t391 t392 t393 t394 t395 true _ A238.out).mono ?_); rintro e w246 ⟨rfl, hb⟩; refine ⟨_, rfl, ?_⟩; replace HO_9 := am (Kd.R_below (rB HO_9.out) hb); replace BK377 := am (blk_below (bB BK377.out) hb); replace BK378 := am (blk_below (bB BK378.out) hb); replace BK399 := am (blk_below (bB BK399.out) hb); replace BK400 := am (blk_below (bB BK400.out) hb); replace HB := am (below_step (sB HB.out) hb); (try clear hb); (try clear hb2); (try clear hk); (try clear hi); obtain ⟨hcz247_0, hcz247_1, hcz247_2, hcz247_3, hcz247_4, hcz247_5, hcz247_6, hcz247_7, hfz247_0, hfz247_1, hfz247_2, hfz247_3, hfz247_4, hfz247_5, hfz247_6, hfz247_7⟩ := blk8 BK399.out) | (go_at_call 65; (with_reducible refine (impl_ActionName.calls t393 t417 _ A240.out).mono ?_); rintro e w' ⟨rfl, ⟨nd, rfl⟩⟩))
               go_ret
               exact ⟨by first | rfl | (cases hq_ : t417.toList <;> simp [hq_, errW_none, errW_some] <;> done) | (cases hq_ : t417.toList <;> simp [hq_, errW_none, errW_some] <;> rfl) | (simp [errW_none, errW_some] <;> rfl) | (simp [*, errW_none, errW_some] <;> rfl), sB HB.out⟩
              ·replace c239 := Bool.eq_false_iff.mpr c239
               subst c239
               have H1 : (some true) = some r := by rw [if_neg (show ¬ (false = true) by decide)] at H; exact H
               clear H
               have H := H1
               clear H1
               obtain rfl := Option.some.inj H
               obtain ⟨Ao248, co248, eo248⟩ := Kd.R_slice HO_9.out
               subst eo248
               have hnb249 := NB399_377.out
               have hnc249 := NB377_399.out
               have hnb250 := NB399_378.out
               have hnc250 := NB378_399.out
               have hnb251 := NB399_400.out
               have hnc251 := NB400_399.out
               have hcz252_0 : wr.cell? ⟨gb399, 0, none⟩ = some (.int .i64 t388) := (blk_cell BK399.out 0).trans rfl
               have hcz252_1 : wr.cell? ⟨gb399, 1, none⟩ = some (.int .i64 t389) := (blk_cell BK399.out 1).trans rfl
               have hcz252_2 : wr.cell? ⟨gb399, 2, none⟩ = some (.int .i64 t390) := (blk_cell BK399.out 2).trans rfl
               have hcz252_3 : wr.cell? ⟨gb399, 3, none⟩ = some (.int .i64 t391) := (blk_cell BK399.out 3).trans rfl
               have hcz252_4 : wr.cell? ⟨gb399, 4, none⟩ = some (.int .i64 t392) := (blk_cell BK399.out 4).trans rfl
               have hcz252_5 : wr.cell? ⟨gb399, 5, none⟩ = some (.int .i64 t393) := (blk_cell BK399.out 5).trans rfl
               have hcz252_6 : wr.cell? ⟨gb399, 6, none⟩ = some (.int .i64 t394) := (blk_cell BK399.out 6).trans rfl
               have hcz252_7 : wr.cell? ⟨gb399, 7, none⟩ = some (.int .i64 t395) := (blk_cell BK399.out 7).trans rfl
               have hfz252_0 := blk_frozen BK399.out 0
               have hfz252_1 := blk_frozen BK399.out 1
               have hfz252_2 := blk_frozen BK399.out 2
               have hfz252_3 := blk_frozen BK399.out 3
               have hfz252_4 := blk_frozen BK399.out 4
               have hfz252_5 := blk_frozen BK399.out 5
               have hfz252_6 := blk_frozen BK399.out 6
               have hfz252_7 := blk_frozen BK399.out 7
               go_wp2_with (first | ((with_reducible refine gate_callee (f := 62) rfl ?_); refine goesL_ (some 111) rfl rfl Try.func62 (by kernel_rfl) rfl #[.agg #[.int .i64 t388, .int .i64 t389, .int .i64 t390, .int .i64 t391, .int .i64 t392, .int .i64 t393, .int .i64 t394, .int .i64 t395]] rfl (by (try simp only [List.map_toArray, List.map_cons, List.map_nil]); first | done | rfl | (simp only [List.length_drop, List.length_take]; rfl)) ?_; (with_reducible refine (impl_IsRule.calls k4 t388 t389 t390 t391 t392 t393 t394 t395 false _ A238.out).mono ?_); rintro e w253 ⟨rfl, hb⟩; refine ⟨_, rfl, ?_⟩; replace HO_9 := am (Kd.R_below (rB HO_9.out) hb); replace BK377 := am (blk_below (bB BK377.out) hb); replace BK378 := am (blk_below (bB BK378.out) hb); replace BK399 := am (blk_below (bB BK399.out) hb); replace BK400 := am (blk_below (bB BK400.out) hb); replace HB := am (below_step (sB HB.out) hb); (try clear hb); (try clear hb2); (try clear hk); (try clear hi)))
               go_ret
               exact ⟨by first | rfl | (simp [errW_none, errW_some] <;> rfl) | (simp [*, errW_none, errW_some] <;> rfl), sB HB.out⟩

/-- THE ONE PURE STATEMENT of laws_FnRules: yours. -/
def laws_FnRules.Pure : Prop := ∀ (l0 : List Int), l0.length ≤ maxLen → l0.length * 1 ≤ 140737488351232 → (∀ x ∈ l0, (Lit.int .u8 x).wf = true) → ∃ k, laws_FnRules.f k l0 = some true
theorem laws_FnRules.walk (P : laws_FnRules.Pure) (a0 : Option Addr) (len0 cap0 : Nat) (z0 : List Int) (w : World) (w0 : (a0 = none ∧ len0 = 0 ∧ cap0 = 0 ∧ z0 = []) ∨ ∃ x, a0 = some x ∧ len0 ≤ cap0 ∧ cap0 ≤ maxLen ∧ z0.length = cap0 ∧ (∀ i, i < z0.length → w.cell? (x.add i) = some (.int .u8 (z0.getD i 0))) ∧ ∀ n ∈ z0, (Lit.int .u8 n).wf = true) (y0 : len0 * 1 ≤ 140737488351232) :
  Calls Try.prog 10 #[.slice a0 len0 cap0] w fun e w' => e = .returned (.bool true) ∧ Below w.heap.size w w' := by
 obtain ⟨l0, rfl, hr0, hm0, hw0, hc0⟩ := ReadsInt.ofRowC w0
 obtain ⟨k, h⟩ := P l0 hm0 y0 hw0
 refine (laws_FnRules.calls k _ _ l0 true w (Kd.C_of_reads (d := (0 : Int)) (h1 := fun _ => rfl) hr0) hc0 h rfl).mono ?_
 rintro e w' ⟨rfl, hd⟩
 exact ⟨rfl, hd⟩

end Go.Proofs.Ytacgichgadoddaa.QJ
