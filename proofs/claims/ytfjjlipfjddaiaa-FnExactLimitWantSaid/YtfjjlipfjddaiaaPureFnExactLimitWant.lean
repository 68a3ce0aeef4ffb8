/- For every Behave, all moves, times and counts the law of LimitWant answers true.
   Conditions: none. -/
import Derived.Test.YtfjjlipfjddaiaaU51
import Derived.Test.YtfjjlipfjddaiaaCvBehave
import Derived.Test.YtfjjlipfjddaiaaCvMove
import Derived.Test.YtfjjlipfjddaiaaLimitWant
namespace Go.Proofs.Ytfjjlipfjddaiaa.Pure
open Go.RowKit Go.Proofs.YtfjjlipfjddaiaaW.PrintWords Go.Proofs.YtfjjlipfjddaiaaW.PrintMore Go.Proofs.Ytfjjlipfjddaiaa.U Go.Proofs.Ytfjjlipfjddaiaa.Base
theorem FnExactLimitWant : ∀ (l0_0 : List (S125)) (a0_1 : Int) (a0_2 : Int) (l0_3 : List (S125)) (a0_4 : Int) (a0_5 : Int) (a0_6 : Int) (a0_7 : Int) (l1 : List (S105)) (a2 : Int) (a3 : Int) (a4 : Int), (l0_0.length ≤ 9223372036854775807 ∧ ∀ x ∈ l0_0, ((Lit.int .i64 x.f0).wf = true ∧ (Lit.int .i64 x.f1).wf = true ∧ (Lit.int .i64 x.f2).wf = true)) → (Lit.int .i64 a0_1).wf = true → (Lit.int .i64 a0_2).wf = true → (l0_3.length ≤ 9223372036854775807 ∧ ∀ x ∈ l0_3, ((Lit.int .i64 x.f0).wf = true ∧ (Lit.int .i64 x.f1).wf = true ∧ (Lit.int .i64 x.f2).wf = true)) → (Lit.int .i64 a0_4).wf = true → (Lit.int .i64 a0_5).wf = true → (Lit.int .i64 a0_6).wf = true → (Lit.int .i64 a0_7).wf = true → (l1.length ≤ 9223372036854775807 ∧ ∀ x ∈ l1, ((Lit.int .i64 x.f0).wf = true ∧ (Lit.int .i64 x.f1).wf = true)) → (Lit.int .i64 a2).wf = true → (Lit.int .i64 a3).wf = true → (Lit.int .i64 a4).wf = true → ∃ k, laws_FnExactLimitWant.f k l0_0 a0_1 a0_2 l0_3 a0_4 a0_5 a0_6 a0_7 l1 a2 a3 a4 = some true := by
  intro l a b l' a' b' m n ls now count want hl _ _ hl' _ _ _ _ hls _ _ _
  apply Ev.rounds (g := fun k => laws_FnExactLimitWant.f k l a b l' a' b' m n ls now count want)
  unfold laws_FnExactLimitWant.f
  rcases szBehave_ends l hl.1 a b l' hl'.1 a' b' m n 1048576 (by omega) (by omega) with h | ⟨L, h, h0, hL, h1, h2⟩
  · rw [h]
    exact Ev.now true
  · rw [h]
    refine Ev.bind0 rfl (Ev.neg (by omega) ?_)
    unfold laws_szMoveS.f
    rw [sz_len hls.1 h0 hL]
    by_cases h3 : L - (ls.length : Int) < 0
    · rw [if_pos h3]
      exact Ev.now true
    · rw [if_neg h3]
      refine Ev.bind0 rfl (Ev.neg h3 ?_)
      have hs : ls.length ≤ 1048576 := by omega
      have e1 : (l.map cvPolicy).length ≤ 1048576 := by rw [List.length_map]; exact h1
      have e2 : (l'.map cvPolicy).length ≤ 1048576 := by rw [List.length_map]; exact h2
      have e3 : (ls.map cvMove).length ≤ 1048576 := by rw [List.length_map]; exact hs
      have hb := ev_toBehave l h1 a b l' h2 a' b' m n
      have hn := ev_toMoveS ls hs
      refine Ev.bind hb (Ev.bind hn (Ev.bind (limitWant_spec _ _ _ _ _ _ _ _ _ e3 _ _ _) (Ev.bind hb (Ev.bind hn (Ev.bind (limitWant_impl _ e1 _ _ _ e2 _ _ _ _ _ e3 _ _ _) (Ev.pos rfl (Ev.bind hb (Ev.bind (ev_eqBehave _ e1 _ _ _ e2 _ _ _ _) (Ev.pos rfl (Ev.bind hn (Ev.bind (ev_eqMoveS _ e3) ?_)))))))))))
      exact Ev.now true
end Go.Proofs.Ytfjjlipfjddaiaa.Pure
