/- For every Side the law of SideText answers true.
   Conditions: none. -/
import Derived.Test.YtblfoelddakelaaDoorSideTx
import Derived.Test.YtblfoelddakelaaDoorCvSide
import Derived.Test.YtblfoelddakelaaDoorU13
namespace Go.Proofs.YtblfoelddakelaaDoor.Pure
open Go.RowKit Go.Proofs.YtblfoelddakelaaDoorW.PrintWords Go.Proofs.YtblfoelddakelaaDoorW.PrintMore Go.Proofs.YtblfoelddakelaaDoorW.PrintLast Go.Proofs.YtblfoelddakelaaDoor.Base Go.Proofs.YtblfoelddakelaaDoor.U Go.Proofs.YtblfoelddakelaaDoor.Texts
theorem FnExactSideText : ∀ (l0_0 : List (S94)) (a0_1 : Int) (a0_2 : Int), (l0_0.length ≤ 9223372036854775807 ∧ ∀ x ∈ l0_0, ((Lit.int .i64 x.f0).wf = true ∧ (Lit.int .i64 x.f1).wf = true ∧ (Lit.int .i64 x.f2).wf = true)) → (Lit.int .i64 a0_1).wf = true → (Lit.int .i64 a0_2).wf = true → ∃ k, laws_FnExactSideText.f k l0_0 a0_1 a0_2 = some true := by
  intro l a b hl _ _
  apply Ev.rounds (g := fun k => laws_FnExactSideText.f k l a b)
  unfold laws_FnExactSideText.f
  rcases szSide_ends l hl.1 a b 1048576 (by omega) (by omega) with h | ⟨L, h, h0, _, h1⟩
  · rw [h]
    exact Ev.now true
  · rw [h]
    refine Ev.bind0 rfl (Ev.neg (by omega) ?_)
    have e1 : (l.map cvPolicy).length ≤ 1048576 := by rw [List.length_map]; exact h1
    have hb := ev_toSide l h1 a b
    obtain ⟨X, hs, hi⟩ := sideText_ends (l.map cvPolicy) e1 a b
    refine Ev.bind hb (Ev.bind hs (Ev.bind hb (Ev.bind hi (Ev.pos rfl (Ev.bind hb (Ev.bind (ev_eqSide _ e1 _ _) ?_))))))
    exact Ev.now true
end Go.Proofs.YtblfoelddakelaaDoor.Pure
