/- The pure side of FnExactOutcomeName: the printed function of the law answers true, for every input. -/
import Derived.Test.YtgjbmfmolnjfkaaPFnExactOutcomeNamex1
namespace Go.Proofs.Ytgjbmfmolnjfkaa.Pure
open Go.RowKit Go.Proofs.Ytgjbmfmolnjfkaa.PFnExactOutcomeName Go.Proofs.YtgjbmfmolnjfkaaW.PrintWords Go.Proofs.YtgjbmfmolnjfkaaW.PrintLast
theorem FnExactOutcomeName : laws_FnExactOutcomeName.Pure := by
  intro a0 _
  unfold laws_FnExactOutcomeName.f spec_OutcomeName.f impl_OutcomeName.f spec_l1In.f
  by_cases h1 : a0 = 1
  · subst_vars; simp [rdOf]
  · by_cases h2 : a0 = 2
    · subst_vars; simp [rdOf]
    · by_cases h3 : a0 = 3
      · subst_vars; simp [rdOf]
      · by_cases h5 : a0 = 4
        · subst_vars; simp [rdOf]
        · by_cases h4 : 1 ≤ a0
          · simp [h1, h2, h3, h5, h4, show ¬ a0 ≤ 4 by omega]
          · simp [h1, h2, h3, h5, h4]
end Go.Proofs.Ytgjbmfmolnjfkaa.Pure
