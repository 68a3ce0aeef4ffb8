/- For every Setup and every text the law of GoalOf answers true.
   Conditions: none. -/
import Derived.Test.YtblfoelddakelaaU31
import Derived.Test.YtblfoelddakelaaU23
import Derived.Test.YtblfoelddakelaaU30
import Derived.Test.YtblfoelddakelaaCvSetup
namespace Go.Proofs.Ytblfoelddakelaa.Pure
open Go.RowKit Go.Proofs.YtblfoelddakelaaW.PrintWords Go.Proofs.YtblfoelddakelaaW.PrintMore Go.Proofs.Ytblfoelddakelaa.U Go.Proofs.Ytblfoelddakelaa.Base
/-- Both look through the goals alike. -/
theorem goalOf_same (g : List S49) (hg : g.length ≤ 1048576) (t : ByteArray) (d f w : Int) (l : List S71) (a b : Int) (l' : List S71) (a' b' m n : Int) :
    ∀ q i, i + q = g.length → ∃ r, Ev (fun k => spec_GoalOf.l0 k t (i : Int) d f w g l a b l' a' b' m n) r ∧ Ev (fun k => impl_GoalOf.l0 k t g (g.length : Int) (i : Int)) r := by
  intro q
  induction q with
  | zero =>
    intro i hi
    exact ⟨_, Ev.step (f := fun _ => some (ByteArray.mk #[], 0, 0, false)) (fun k => by simp only [spec_GoalOf.l0]; rw [if_neg (by omega)]) (Ev.now _), Ev.step (f := fun _ => some (ByteArray.mk #[], 0, 0, false)) (fun k => by simp only [impl_GoalOf.l0]; rw [if_neg (by omega)]) (Ev.now _)⟩
  | succ q ih =>
    intro i hi
    by_cases h : (rd_T49 g i).f0.toList = t.toList
    · exact ⟨_, Ev.step (f := fun _ => some ((rd_T49 g i).f0, (rd_T49 g i).f1, (rd_T49 g i).f2, true)) (fun k => by simp only [spec_GoalOf.l0]; rw [if_pos (by omega), if_pos (by omega), if_pos h]) (Ev.now _), Ev.step (f := fun _ => some ((rd_T49 g i).f0, (rd_T49 g i).f1, (rd_T49 g i).f2, true)) (fun k => by simp only [impl_GoalOf.l0]; rw [if_pos (by omega), if_pos (by omega), if_pos (by omega), if_pos h]) (Ev.now _)⟩
    · obtain ⟨r, h1, h2⟩ := ih (i + 1) (by omega)
      exact ⟨r, Ev.step (fun k => by simp only [spec_GoalOf.l0]; rw [if_pos (by omega), if_pos (by omega), if_neg h, wr_succ (n := g.length) (by omega) (by omega)]) h1, Ev.step (fun k => by simp only [impl_GoalOf.l0]; rw [if_pos (by omega), if_pos (by omega), if_pos (by omega), if_neg h, wr_succ (n := g.length) (by omega) (by omega)]) h2⟩
theorem FnExactGoalOf : ∀ (a0_0 : Int) (a0_1 : Int) (a0_2 : Int) (l0_3 : List (S98)) (l0_4 : List (S132)) (a0_5 : Int) (a0_6 : Int) (l0_7 : List (S132)) (a0_8 : Int) (a0_9 : Int) (a0_10 : Int) (a0_11 : Int) (a1 : ByteArray), (Lit.int .i64 a0_0).wf = true → (Lit.int .i64 a0_1).wf = true → (Lit.int .i64 a0_2).wf = true → (l0_3.length ≤ 9223372036854775807 ∧ ∀ x ∈ l0_3, (x.f0.size ≤ 9223372036854775807 ∧ (Lit.int .i64 x.f1).wf = true ∧ (Lit.int .i64 x.f2).wf = true)) → (l0_4.length ≤ 9223372036854775807 ∧ ∀ x ∈ l0_4, ((Lit.int .i64 x.f0).wf = true ∧ (Lit.int .i64 x.f1).wf = true ∧ (Lit.int .i64 x.f2).wf = true)) → (Lit.int .i64 a0_5).wf = true → (Lit.int .i64 a0_6).wf = true → (l0_7.length ≤ 9223372036854775807 ∧ ∀ x ∈ l0_7, ((Lit.int .i64 x.f0).wf = true ∧ (Lit.int .i64 x.f1).wf = true ∧ (Lit.int .i64 x.f2).wf = true)) → (Lit.int .i64 a0_8).wf = true → (Lit.int .i64 a0_9).wf = true → (Lit.int .i64 a0_10).wf = true → (Lit.int .i64 a0_11).wf = true → a1.size ≤ 9223372036854775807 → ∃ k, laws_FnExactGoalOf.f k a0_0 a0_1 a0_2 l0_3 l0_4 a0_5 a0_6 l0_7 a0_8 a0_9 a0_10 a0_11 a1 = some true := by
  intro d f w g l a b l' a' b' m n t _ _ _ hg hl _ _ hl' _ _ _ _ ht
  apply Ev.rounds (g := fun k => laws_FnExactGoalOf.f k d f w g l a b l' a' b' m n t)
  unfold laws_FnExactGoalOf.f
  by_cases h0 : (t.size : Int) > 1048576
  · exact Ev.pos h0 (Ev.now _)
  refine Ev.neg h0 ?_
  rcases szSetup_ends d f w g hg.1 (fun x hx => (hg.2 x hx).1) l hl.1 a b l' hl'.1 a' b' m n 1048576 (by omega) (by omega) with h | ⟨L, h, h1, _, h2, h3, h4⟩
  · exact Ev.bind h (Ev.pos (by omega) (Ev.now _))
  · have hs := ev_toSetup d f w g h2 l h3 a b l' h4 a' b' m n
    have e1 : (g.map cvGoal).length ≤ 1048576 := by rw [List.length_map]; exact h2
    have e2 : (l.map cvPolicy).length ≤ 1048576 := by rw [List.length_map]; exact h3
    have e3 : (l'.map cvPolicy).length ≤ 1048576 := by rw [List.length_map]; exact h4
    obtain ⟨r, r1, r2⟩ := goalOf_same (g.map cvGoal) e1 t d f w (l.map cvPolicy) a b (l'.map cvPolicy) a' b' m n (g.map cvGoal).length 0 (by omega)
    have r1' : Ev (fun k => spec_GoalOf.f k d f w (g.map cvGoal) (l.map cvPolicy) a b (l'.map cvPolicy) a' b' m n t) r := by unfold spec_GoalOf.f; exact r1
    have r2' : Ev (fun k => impl_GoalOf.f k d f w (g.map cvGoal) (l.map cvPolicy) a b (l'.map cvPolicy) a' b' m n t) r := by unfold impl_GoalOf.f; exact r2
    refine Ev.bind h (Ev.neg (by omega) (Ev.bind hs (Ev.bind r1' (Ev.bind hs (Ev.bind r2' (Ev.bind0 (eqGoal_self _ _ _) (Ev.pos rfl ?_)))))))
    refine Ev.step (f := fun k => (laws_toSetup.f k d f w g l a b l' a' b' m n).bind fun t => ((laws_eqSetup.f k d f w (g.map cvGoal) (l.map cvPolicy) a b (l'.map cvPolicy) a' b' m n t.1 t.2.1 t.2.2.1 t.2.2.2.1 t.2.2.2.2.1 t.2.2.2.2.2.1 t.2.2.2.2.2.2.1 t.2.2.2.2.2.2.2.1 t.2.2.2.2.2.2.2.2.1 t.2.2.2.2.2.2.2.2.2.1 t.2.2.2.2.2.2.2.2.2.2.1 t.2.2.2.2.2.2.2.2.2.2.2).bind fun u => (if u = true then (some true) else (some false)))) (fun k => by simp [laws_FnExactGoalOf.j0]) ?_
    refine Ev.bind hs (Ev.bind (ev_eqSetup d f w _ e1 _ e2 a b _ e3 a' b' m n) ?_)
    exact Ev.now true
end Go.Proofs.Ytblfoelddakelaa.Pure
