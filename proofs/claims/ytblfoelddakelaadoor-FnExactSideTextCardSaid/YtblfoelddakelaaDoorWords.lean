/- Plain facts: what the program's number and words give.
   Conditions: none. -/
import Derived.Test.YtblfoelddakelaaDoorNum
import Derived.Test.YtblfoelddakelaaDoorU3
import Derived.Test.YtblfoelddakelaaDoorU3
namespace Go.Proofs.YtblfoelddakelaaDoor.Texts
open Go.RowKit Go.Proofs.YtblfoelddakelaaDoorW.PrintWords Go.Proofs.YtblfoelddakelaaDoorW.PrintMore Go.Proofs.YtblfoelddakelaaDoorW.PrintLast Go.Proofs.YtblfoelddakelaaDoor.Base Go.Proofs.YtblfoelddakelaaDoor.U
theorem wf_le {a : Int} (h : (Lit.int .i64 a).wf = true) : -9223372036854775808 ≤ a ∧ a ≤ 9223372036854775807 := by
  simp [Lit.wf, IntKind.min, IntKind.max, IntKind.signed, IntKind.bits] at h
  omega

theorem number_is (a : Int) (h0 : -9223372036854775808 ≤ a) (h1 : a ≤ 9223372036854775807) : impl_number.f a = some (S (Lib.itoa a)) := by
  unfold impl_number.f
  rw [if_pos ⟨h0, h1⟩]
  rfl
theorem words_is (l : List (List UInt8)) (h : (Lib.join l [32]).length ≤ 1000000 ∧ l.length ≤ 1000) : impl_words.f (l.map S) = some (S (Lib.join l [32])) := by
  unfold impl_words.f
  have e : (l.map S).map (·.data.toList) = l := by rw [List.map_map]; exact (List.map_congr_left fun x _ => S_data x).trans (List.map_id _)
  rw [e, if_pos ⟨by omega, by rw [List.length_map]; omega⟩]
  rfl

theorem words4 (a b c d : List UInt8) (h : a.length + b.length + c.length + d.length ≤ 10000) : impl_words.f [S a, S b, S c, S d] = some (S (a ++ [32] ++ b ++ [32] ++ c ++ [32] ++ d)) := by
  have := words_is [a, b, c, d] ⟨by simp [Lib.join, List.intercalate]; omega, by simp⟩
  rw [show [a, b, c, d].map S = [S a, S b, S c, S d] from rfl] at this
  rw [this]
  simp [Lib.join, List.intercalate]

end Go.Proofs.YtblfoelddakelaaDoor.Texts
