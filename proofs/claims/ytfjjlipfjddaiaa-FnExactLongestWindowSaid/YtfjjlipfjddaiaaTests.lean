/- The tests of numbers: of the program and of the reference, one plain test each.
   Conditions: none. -/
import Derived.Test.YtfjjlipfjddaiaaU5
import Derived.Test.YtfjjlipfjddaiaaU5
import Derived.Test.YtfjjlipfjddaiaaU8
import Derived.Test.YtfjjlipfjddaiaaU8
import Derived.Test.YtfjjlipfjddaiaaU15
import Derived.Test.YtfjjlipfjddaiaaU12
import Derived.Test.YtfjjlipfjddaiaaBase
namespace Go.Proofs.Ytfjjlipfjddaiaa.Base
open Go.RowKit Go.Proofs.YtfjjlipfjddaiaaW.PrintWords Go.Proofs.YtfjjlipfjddaiaaW.PrintMore Go.Proofs.Ytfjjlipfjddaiaa.U
theorem in_impl (a b c : Int) : impl_in.f a b c = some (decide (b ≤ a ∧ a ≤ c)) := by
  unfold impl_in.f
  by_cases h : a ≥ b
  · rw [if_pos h]; have h' : b ≤ a := h; simp [h']
  · rw [if_neg h]; have h' : ¬ b ≤ a := h; simp [h']
theorem in_spec (a b c : Int) : spec_l01In.f a b c = some (decide (b ≤ a ∧ a ≤ c)) := by
  unfold spec_l01In.f
  by_cases h : b ≤ a
  · rw [if_pos h]; simp [h]
  · rw [if_neg h]; simp [h]
theorem tick_impl (a : Int) : impl_isTick.f a = some (decide (0 ≤ a ∧ a ≤ 1000000000)) := by
  unfold impl_isTick.f; rw [in_impl]; rfl
theorem tick_spec (a : Int) : spec_l02Tick.f a = some (decide (0 ≤ a ∧ a ≤ 1000000000)) := by
  unfold spec_l02Tick.f; rw [in_spec]; rfl
theorem count_impl (a : Int) : impl_isCount.f a = some (decide (0 ≤ a ∧ a ≤ 1000)) := by
  unfold impl_isCount.f; rw [in_impl]; rfl
theorem count_spec (a : Int) : spec_l05Count.f a = some (decide (0 ≤ a ∧ a ≤ 1000)) := by
  unfold spec_l05Count.f; rw [in_spec]; rfl
end Go.Proofs.Ytfjjlipfjddaiaa.Base
