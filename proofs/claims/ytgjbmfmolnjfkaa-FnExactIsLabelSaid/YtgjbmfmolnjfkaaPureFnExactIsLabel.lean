/- The pure side of FnExactIsLabel: the printed function of the law answers true, for every input. -/
import Derived.Test.YtgjbmfmolnjfkaaPFnExactIsLabelx1
namespace Go.Proofs.Ytgjbmfmolnjfkaa.Pure
open Go.RowKit Go.Proofs.Ytgjbmfmolnjfkaa.PFnExactIsLabel Go.Proofs.YtgjbmfmolnjfkaaW.PrintWords Go.Proofs.YtgjbmfmolnjfkaaW.PrintLast
theorem FnExactIsLabel : laws_FnExactIsLabel.Pure := by
  intro a0 _
  unfold laws_FnExactIsLabel.f spec_IsLabel.f impl_IsLabel.f spec_l1In.f impl_InRange.f
  by_cases h1 : 0 ≤ a0 <;> by_cases h2 : a0 ≤ 1022 <;> simp [h1, h2]
end Go.Proofs.Ytgjbmfmolnjfkaa.Pure
