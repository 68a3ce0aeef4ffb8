/- For every Setup the law of SetupOk answers true.
   Conditions: none. -/
import Derived.Test.YtblfoelddakelaaU27
import Derived.Test.YtblfoelddakelaaCvSetup
import Derived.Test.YtblfoelddakelaaSetupOk
namespace Go.Proofs.Ytblfoelddakelaa.Pure
open Go.RowKit Go.Proofs.YtblfoelddakelaaW.PrintWords Go.Proofs.YtblfoelddakelaaW.PrintMore Go.Proofs.Ytblfoelddakelaa.U Go.Proofs.Ytblfoelddakelaa.Base
theorem FnExactSetupOk : ∀ (a0_0 : Int) (a0_1 : Int) (a0_2 : Int) (l0_3 : List (S98)) (l0_4 : List (S132)) (a0_5 : Int) (a0_6 : Int) (l0_7 : List (S132)) (a0_8 : Int) (a0_9 : Int) (a0_10 : Int) (a0_11 : Int), (Lit.int .i64 a0_0).wf = true → (Lit.int .i64 a0_1).wf = true → (Lit.int .i64 a0_2).wf = true → (l0_3.length ≤ 9223372036854775807 ∧ ∀ x ∈ l0_3, (x.f0.size ≤ 9223372036854775807 ∧ (Lit.int .i64 x.f1).wf = true ∧ (Lit.int .i64 x.f2).wf = true)) → (l0_4.length ≤ 9223372036854775807 ∧ ∀ x ∈ l0_4, ((Lit.int .i64 x.f0).wf = true ∧ (Lit.int .i64 x.f1).wf = true ∧ (Lit.int .i64 x.f2).wf = true)) → (Lit.int .i64 a0_5).wf = true → (Lit.int .i64 a0_6).wf = true → (l0_7.length ≤ 9223372036854775807 ∧ ∀ x ∈ l0_7, ((Lit.int .i64 x.f0).wf = true ∧ (Lit.int .i64 x.f1).wf = true ∧ (Lit.int .i64 x.f2).wf = true)) → (Lit.int .i64 a0_8).wf = true → (Lit.int .i64 a0_9).wf = true → (Lit.int .i64 a0_10).wf = true → (Lit.int .i64 a0_11).wf = true → ∃ k, laws_FnExactSetupOk.f k a0_0 a0_1 a0_2 l0_3 l0_4 a0_5 a0_6 l0_7 a0_8 a0_9 a0_10 a0_11 = some true := by
  intro d f w g l a b l' a' b' m n _ _ _ hg hl _ _ hl' _ _ _ _
  apply Ev.rounds (g := fun k => laws_FnExactSetupOk.f k d f w g l a b l' a' b' m n)
  unfold laws_FnExactSetupOk.f
  rcases szSetup_ends d f w g hg.1 (fun x hx => (hg.2 x hx).1) l hl.1 a b l' hl'.1 a' b' m n 1048576 (by omega) (by omega) with h | ⟨L, h, h0, _, h1, h2, h3⟩
  · exact Ev.bind h (Ev.pos (by omega) (Ev.now true))
  · refine Ev.bind h (Ev.neg (by omega) ?_)
    have hb := ev_toSetup d f w g h1 l h2 a b l' h3 a' b' m n
    have e1 : (g.map cvGoal).length ≤ 1048576 := by rw [List.length_map]; exact h1
    have e2 : (l.map cvPolicy).length ≤ 1048576 := by rw [List.length_map]; exact h2
    have e3 : (l'.map cvPolicy).length ≤ 1048576 := by rw [List.length_map]; exact h3
    have hs : ∀ x ∈ g.map cvGoal, x.f0.size ≤ 9223372036854775807 := by
      intro x hx
      rw [List.mem_map] at hx
      obtain ⟨y, hy, rfl⟩ := hx
      exact (hg.2 y hy).1
    refine Ev.bind hb (Ev.bind (setupOk_spec _ _ _ _ e1 hs _ _ _ _ _ _ _ _) (Ev.bind hb (Ev.bind (setupOk_impl _ _ _ _ e1 hs _ e2 _ _ _ e3 _ _ _ _) (Ev.neg (by simp) (Ev.bind hb (Ev.bind (ev_eqSetup _ _ _ _ e1 _ e2 _ _ _ e3 _ _ _ _) ?_))))))
    exact Ev.now true
end Go.Proofs.Ytblfoelddakelaa.Pure
