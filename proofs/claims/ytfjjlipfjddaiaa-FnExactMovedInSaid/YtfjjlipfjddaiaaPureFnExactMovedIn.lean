/- For every list of moves, every time and every period the law of MovedIn answers true.
   Conditions: none. -/
import Derived.Test.YtfjjlipfjddaiaaU10
import Derived.Test.YtfjjlipfjddaiaaCvMove
import Derived.Test.YtfjjlipfjddaiaaMovedIn
namespace Go.Proofs.Ytfjjlipfjddaiaa.Pure
open Go.RowKit Go.Proofs.YtfjjlipfjddaiaaW.PrintWords Go.Proofs.YtfjjlipfjddaiaaW.PrintMore Go.Proofs.Ytfjjlipfjddaiaa.U Go.Proofs.Ytfjjlipfjddaiaa.Base
theorem FnExactMovedIn : ∀ (l0 : List S105) (a1 : Int) (a2 : Int), (l0.length ≤ 9223372036854775807 ∧ ∀ x ∈ l0, ((Lit.int .i64 x.f0).wf = true ∧ (Lit.int .i64 x.f1).wf = true)) → (Lit.int .i64 a1).wf = true → (Lit.int .i64 a2).wf = true → ∃ k, laws_FnExactMovedIn.f k l0 a1 a2 = some true := by
  intro l now per hl _ _
  apply Ev.rounds (g := fun k => laws_FnExactMovedIn.f k l now per)
  unfold laws_FnExactMovedIn.f laws_szMoveS.f
  rw [sz_len hl.1 (by omega) (by omega)]
  by_cases h0 : (1048576 : Int) - l.length < 0
  · rw [if_pos h0]
    exact Ev.now true
  · rw [if_neg h0]
    refine Ev.bind0 rfl (Ev.neg h0 ?_)
    have hlen : l.length ≤ 1048576 := by omega
    have hlen' : (l.map cvMove).length ≤ 1048576 := by rw [List.length_map]; exact hlen
    refine Ev.bind (ev_toMoveS l hlen) (Ev.bind (movedIn_spec _ hlen' now per) (Ev.bind (ev_toMoveS l hlen) (Ev.bind (movedIn_impl _ hlen' now per) (Ev.pos rfl ?_))))
    refine Ev.step (f := fun k => (laws_toMoveS.f k l).bind fun t => ((laws_eqMoveS.f k (l.map cvMove) t).bind fun u => (if u = true then (some true) else (some false)))) (fun k => by simp [laws_FnExactMovedIn.j0]) ?_
    refine Ev.bind (ev_toMoveS l hlen) (Ev.bind (ev_eqMoveS _ hlen') ?_)
    exact Ev.now true
end Go.Proofs.Ytfjjlipfjddaiaa.Pure
