/- The pure side of FnExactActionName: the printed function of the law answers true, for every input. -/
import Derived.Test.YtgjbmfmolnjfkaaPFnExactActionNamex1
namespace Go.Proofs.Ytgjbmfmolnjfkaa.Pure
open Go.RowKit Go.Proofs.Ytgjbmfmolnjfkaa.PFnExactActionName Go.Proofs.YtgjbmfmolnjfkaaW.PrintWords Go.Proofs.YtgjbmfmolnjfkaaW.PrintLast
theorem FnExactActionName : laws_FnExactActionName.Pure := by
  intro a0 _
  unfold laws_FnExactActionName.f spec_ActionName.f impl_ActionName.f spec_l1In.f
  by_cases h1 : a0 = 1
  · subst_vars; simp [rdOf]
  · by_cases h2 : a0 = 2
    · subst_vars; simp [rdOf]
    · by_cases h3 : a0 = 3
      · subst_vars; simp [rdOf]
      · by_cases h4 : 1 ≤ a0
        · simp [h1, h2, h3, h4, show ¬ a0 ≤ 3 by omega]
        · simp [h1, h2, h3, h4]
end Go.Proofs.Ytgjbmfmolnjfkaa.Pure
