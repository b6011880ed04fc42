/- The pure side of FnExactIsRequest: the printed function of the law answers true, for every input. -/
import Derived.Test.YtgjbmfmolnjfkaaPFnExactIsRequestx1
namespace Go.Proofs.Ytgjbmfmolnjfkaa.Pure
open Go.RowKit Go.Proofs.Ytgjbmfmolnjfkaa.PFnExactIsRequest Go.Proofs.YtgjbmfmolnjfkaaW.PrintWords Go.Proofs.YtgjbmfmolnjfkaaW.PrintLast
theorem same_in (a b c : Int) : spec_l1In.f a b c = impl_InRange.f a b c := rfl
theorem in_some (a b c : Int) : ∃ r, impl_InRange.f a b c = some r := by
  unfold impl_InRange.f
  split <;> exact ⟨_, rfl⟩
theorem same_site (a b : Int) : spec_IsSite.f a b = impl_IsSite.f a b := rfl
theorem site_some (a b : Int) : ∃ r, impl_IsSite.f a b = some r := by
  unfold impl_IsSite.f
  obtain ⟨r, h⟩ := in_some a 1 9
  obtain ⟨s, h2⟩ := in_some b 0 9
  rw [h, h2]
  cases r <;> simp
theorem same_request (a b c : Int) : spec_IsRequest.f a b c = impl_IsRequest.f a b c := rfl
theorem request_some (a b c : Int) : ∃ r, impl_IsRequest.f a b c = some r := by
  unfold impl_IsRequest.f
  obtain ⟨r, h⟩ := site_some a b
  obtain ⟨s, h2⟩ := in_some c 1 4
  rw [h, h2]
  cases r <;> simp
theorem FnExactIsRequest (a b c : Int) (_ : (Lit.int .i64 a).wf = true) (_ : (Lit.int .i64 b).wf = true) (_ : (Lit.int .i64 c).wf = true) : laws_FnExactIsRequest.f a b c = some true := by
  obtain ⟨r, h⟩ := request_some a b c
  unfold laws_FnExactIsRequest.f laws_toRequest.f laws_toSite.f
  simp [same_request, h]
end Go.Proofs.Ytgjbmfmolnjfkaa.Pure
