/- For every Behave the law of LongestWindow answers true.
   Conditions: none. -/
import Derived.Test.YtfjjlipfjddaiaaU34
import Derived.Test.YtfjjlipfjddaiaaCvBehave
import Derived.Test.YtfjjlipfjddaiaaLongestWindow
namespace Go.Proofs.Ytfjjlipfjddaiaa.Pure
open Go.RowKit Go.Proofs.YtfjjlipfjddaiaaW.PrintWords Go.Proofs.YtfjjlipfjddaiaaW.PrintMore Go.Proofs.Ytfjjlipfjddaiaa.U Go.Proofs.Ytfjjlipfjddaiaa.Base
theorem FnExactLongestWindow : ∀ (l0_0 : List (S125)) (a0_1 : Int) (a0_2 : Int) (l0_3 : List (S125)) (a0_4 : Int) (a0_5 : Int) (a0_6 : Int) (a0_7 : Int), (l0_0.length ≤ 9223372036854775807 ∧ ∀ x ∈ l0_0, ((Lit.int .i64 x.f0).wf = true ∧ (Lit.int .i64 x.f1).wf = true ∧ (Lit.int .i64 x.f2).wf = true)) → (Lit.int .i64 a0_1).wf = true → (Lit.int .i64 a0_2).wf = true → (l0_3.length ≤ 9223372036854775807 ∧ ∀ x ∈ l0_3, ((Lit.int .i64 x.f0).wf = true ∧ (Lit.int .i64 x.f1).wf = true ∧ (Lit.int .i64 x.f2).wf = true)) → (Lit.int .i64 a0_4).wf = true → (Lit.int .i64 a0_5).wf = true → (Lit.int .i64 a0_6).wf = true → (Lit.int .i64 a0_7).wf = true → ∃ k, laws_FnExactLongestWindow.f k l0_0 a0_1 a0_2 l0_3 a0_4 a0_5 a0_6 a0_7 = some true := by
  intro l a b l' a' b' m n hl _ _ hl' _ _ _ _
  apply Ev.rounds (g := fun k => laws_FnExactLongestWindow.f k l a b l' a' b' m n)
  unfold laws_FnExactLongestWindow.f
  rcases szBehave_ends l hl.1 a b l' hl'.1 a' b' m n 1048576 (by omega) (by omega) with h | ⟨L, h, h0, hL, h1, h2⟩
  · rw [h]
    exact Ev.now true
  · rw [h]
    refine Ev.bind0 rfl (Ev.neg (by omega) ?_)
    have e1 : (l.map cvPolicy).length ≤ 1048576 := by rw [List.length_map]; exact h1
    have e2 : (l'.map cvPolicy).length ≤ 1048576 := by rw [List.length_map]; exact h2
    have hb := ev_toBehave l h1 a b l' h2 a' b' m n
    refine Ev.bind hb (Ev.bind (longest_spec _ _ _ _ _ _ _ _ e1 e2) (Ev.bind hb (Ev.bind (longest_impl _ _ _ _ _ _ _ _ e1 e2) (Ev.pos rfl (Ev.bind hb (Ev.bind (ev_eqBehave _ e1 _ _ _ e2 _ _ _ _) ?_))))))
    exact Ev.now true
end Go.Proofs.Ytfjjlipfjddaiaa.Pure
