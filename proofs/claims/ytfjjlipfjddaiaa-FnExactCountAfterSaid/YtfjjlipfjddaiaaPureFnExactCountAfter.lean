/- For every count and every list of events the law of CountAfter answers true.
   Conditions: none. -/
import Derived.Test.YtfjjlipfjddaiaaU4
import Derived.Test.YtfjjlipfjddaiaaCvEvent
namespace Go.Proofs.Ytfjjlipfjddaiaa.Pure
open Go.RowKit Go.Proofs.YtfjjlipfjddaiaaW.PrintWords Go.Proofs.YtfjjlipfjddaiaaW.PrintMore Go.Proofs.Ytfjjlipfjddaiaa.U Go.Proofs.Ytfjjlipfjddaiaa.Base
def caStep (l : List S80) (s : Int) (i : Nat) : Int := if (rd_T80 l i).f0 = 1 ∨ (rd_T80 l i).f0 = 4 then (rd_T80 l i).f3 else s
theorem caSpec (l : List S80) (hl : l.length ≤ 1048576) (c : Int) : Ev (fun k => spec_CountAfter.f k c l) ((List.range' 0 l.length).foldl (caStep l) c) := by
  unfold spec_CountAfter.f
  refine ev_fold (F := fun k s i => spec_CountAfter.l0 k s l i) (n := l.length) (st := caStep l) (out := fun s => s) (Inv := fun _ _ => True) ?_ ?_ l.length 0 c (by omega) trivial
  · intro s _
    exact Ev.step (f := fun _ => some s) (fun k => by simp only [spec_CountAfter.l0]; rw [if_neg (by omega)]) (Ev.now s)
  · intro s i hi _
    refine ⟨trivial, fun r h => Ev.step (fun k => ?_) h⟩
    simp only [spec_CountAfter.l0, spec_l09Write.f]
    rw [if_pos (by omega), if_pos (by omega), wr_succ hi (by omega)]
    unfold caStep
    by_cases h1 : (rd_T80 l i).f0 = 1
    · simp [h1]
    · by_cases h4 : (rd_T80 l i).f0 = 4
      · simp [h4]
      · simp [h1, h4]
theorem caImpl (l : List S80) (hl : l.length ≤ 1048576) (c : Int) : Ev (fun k => impl_CountAfter.f k c l) ((List.range' 0 l.length).foldl (caStep l) c) := by
  unfold impl_CountAfter.f
  refine ev_fold (F := fun k s i => impl_CountAfter.l0 k s l (l.length : Int) i) (n := l.length) (st := caStep l) (out := fun s => s) (Inv := fun _ _ => True) ?_ ?_ l.length 0 c (by omega) trivial
  · intro s _
    exact Ev.step (f := fun _ => some s) (fun k => by simp only [impl_CountAfter.l0]; rw [if_neg (by omega)]) (Ev.now s)
  · intro s i hi _
    refine ⟨trivial, fun r h => Ev.step (fun k => ?_) h⟩
    simp only [impl_CountAfter.l0, impl_Event_isWrite.f]
    rw [if_pos (by omega), if_pos (by omega), if_pos (by omega), wr_succ hi (by omega)]
    unfold caStep
    by_cases h1 : (rd_T80 l i).f0 = 1
    · simp [h1]
    · by_cases h4 : (rd_T80 l i).f0 = 4
      · simp [h4]
      · simp [h1, h4]
theorem FnExactCountAfter : ∀ (a0 : Int) (l1 : List S82), (Lit.int .i64 a0).wf = true → (l1.length ≤ 9223372036854775807 ∧ ∀ x ∈ l1, ((Lit.int .i64 x.f0).wf = true ∧ (Lit.int .i64 x.f1).wf = true ∧ (Lit.int .i64 x.f2).wf = true ∧ (Lit.int .i64 x.f3).wf = true)) → ∃ k, laws_FnExactCountAfter.f k a0 l1 = some true := by
  intro c l _ hl
  apply Ev.rounds (g := fun k => laws_FnExactCountAfter.f k c l)
  unfold laws_FnExactCountAfter.f laws_szEventS.f
  rw [sz_len hl.1 (by omega) (by omega)]
  by_cases h0 : (1048576 : Int) - l.length < 0
  · rw [if_pos h0]
    exact Ev.now true
  · rw [if_neg h0]
    refine Ev.bind0 rfl (Ev.neg h0 ?_)
    have hlen : l.length ≤ 1048576 := by omega
    have hlen' : (l.map cvEvent).length ≤ 1048576 := by rw [List.length_map]; exact hlen
    refine Ev.bind (ev_toEventS l hlen) (Ev.bind (caSpec _ hlen' c) (Ev.bind (ev_toEventS l hlen) (Ev.bind (caImpl _ hlen' c) (Ev.pos rfl (Ev.bind (ev_toEventS l hlen) (Ev.bind (ev_eqEventS _ hlen') ?_))))))
    exact Ev.now true
end Go.Proofs.Ytfjjlipfjddaiaa.Pure
