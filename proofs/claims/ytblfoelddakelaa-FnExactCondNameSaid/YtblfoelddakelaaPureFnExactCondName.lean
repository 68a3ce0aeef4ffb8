/- For every argument, the law of CondName answers true.
   Conditions: none. -/
import Derived.Test.YtblfoelddakelaaPFnExactCondNamex1
namespace Go.Proofs.Ytblfoelddakelaa.Pure
open Go.RowKit Go.Proofs.Ytblfoelddakelaa.PFnExactCondName Go.Proofs.YtblfoelddakelaaW.PrintWords Go.Proofs.YtblfoelddakelaaW.PrintLast

theorem FnExactCondName : laws_FnExactCondName.Pure := by
  intro a _
  unfold laws_FnExactCondName.f spec_CondName.f impl_CondName.f spec_l01In.f impl_in.f
  by_cases h0 : 0 ≤ a
  · by_cases h5 : a ≤ 5
    · have h6 : a < 6 := by omega
      simp [h0, h5, h6]
    · simp [h0, h5]
  · have h1 : ¬ a ≥ 0 := by omega
    simp [h0]

end Go.Proofs.Ytblfoelddakelaa.Pure
