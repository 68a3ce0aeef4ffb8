/- The law of DefaultSetup answers true.
   Conditions: none. -/
import Derived.Test.YtblfoelddakelaaU18
namespace Go.Proofs.Ytblfoelddakelaa.Pure
open Go.RowKit Go.Proofs.Ytblfoelddakelaa.U
theorem FnExactDefaultSetup : laws_FnExactDefaultSetup.Pure := ⟨20, by kernel_rfl⟩
end Go.Proofs.Ytblfoelddakelaa.Pure
