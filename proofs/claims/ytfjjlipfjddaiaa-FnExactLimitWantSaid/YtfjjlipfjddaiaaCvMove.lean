/- Copying a list of Moves gives the list; a list of Moves equals itself.
   Conditions: none. -/
import Derived.Test.YtfjjlipfjddaiaaBase
import Derived.Test.YtfjjlipfjddaiaaU8
import Derived.Test.YtfjjlipfjddaiaaU11
namespace Go.Proofs.Ytfjjlipfjddaiaa.Base
open Go.RowKit Go.Proofs.YtfjjlipfjddaiaaW.PrintWords Go.Proofs.YtfjjlipfjddaiaaW.PrintMore Go.Proofs.Ytfjjlipfjddaiaa.U
def cvMove (x : S105) : S103 := ⟨x.f0, x.f1⟩
theorem ev_toMoveS (l : List S105) (hl : l.length ≤ 1048576) : Ev (fun k => laws_toMoveS.f k l) (l.map cvMove) := by
  unfold laws_toMoveS.f
  refine Ev.pos (by omega) (Ev.pos (by simp; omega) ?_)
  have h := ev_fill (F := fun k s i => laws_toMoveS.l0 k l s i) (n := l.length) (g := fun i => cvMove (l.getD i z105)) ?_ ?_ (List.replicate l.length z103) (by simp)
  · rw [map_range_getD] at h
    simpa using h
  · intro s hs
    exact Ev.step (f := fun _ => some s) (fun k => by simp only [laws_toMoveS.l0]; rw [if_neg (by omega)]) (Ev.now s)
  · intro s i r hi hs h
    refine Ev.step (fun k => ?_) h
    simp only [laws_toMoveS.l0, laws_toMove.f, Option.bind_some]
    rw [if_pos (by omega), if_pos (by omega), if_pos (by omega), wr_succ hi (by omega)]
    simp [cvMove, rd_T105]
theorem ev_eqMoveS (l : List S103) (hl : l.length ≤ 1048576) : Ev (fun k => laws_eqMoveS.f k l l) true := by
  unfold laws_eqMoveS.f
  refine Ev.pos rfl ?_
  have h := ev_all (F := fun k i => laws_eqMoveS.l0 k l l i) (n := l.length) (p := fun _ => true) (q := true) ?_ ?_ ?_ l.length 0 (by omega)
  · have e : (List.range' 0 l.length).all (fun _ => true) = true := by rw [List.all_eq_true]; intros; rfl
    rw [e] at h
    exact h
  · exact Ev.step (f := fun _ => some true) (fun k => by simp only [laws_eqMoveS.l0]; rw [if_neg (by omega)]) (Ev.now true)
  · intro i _ h; cases h
  · intro i r hi _ h
    refine Ev.step (fun k => ?_) h
    simp only [laws_eqMoveS.l0, laws_eqMove.f, if_true, Option.bind_some]
    rw [if_pos (by omega), if_pos (by omega), if_pos (by omega), wr_succ hi (by omega)]
end Go.Proofs.Ytfjjlipfjddaiaa.Base
