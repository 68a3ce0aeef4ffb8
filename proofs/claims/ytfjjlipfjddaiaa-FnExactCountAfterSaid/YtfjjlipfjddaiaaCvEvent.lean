/- Copying a list of Events gives the list; a list of Events equals itself.
   Conditions: none. -/
import Derived.Test.YtfjjlipfjddaiaaBase
import Derived.Test.YtfjjlipfjddaiaaU1
import Derived.Test.YtfjjlipfjddaiaaU3
namespace Go.Proofs.Ytfjjlipfjddaiaa.Base
open Go.RowKit Go.Proofs.YtfjjlipfjddaiaaW.PrintWords Go.Proofs.YtfjjlipfjddaiaaW.PrintMore Go.Proofs.Ytfjjlipfjddaiaa.U
def cvEvent (x : S82) : S80 := ⟨x.f0, x.f1, x.f2, x.f3⟩
theorem ev_toEventS (l : List S82) (hl : l.length ≤ 1048576) : Ev (fun k => laws_toEventS.f k l) (l.map cvEvent) := by
  unfold laws_toEventS.f
  refine Ev.pos (by omega) (Ev.pos (by simp; omega) ?_)
  have h := ev_fill (F := fun k s i => laws_toEventS.l0 k l s i) (n := l.length) (g := fun i => cvEvent (l.getD i z82)) ?_ ?_ (List.replicate l.length z80) (by simp)
  · rw [map_range_getD] at h
    simpa using h
  · intro s hs
    exact Ev.step (f := fun _ => some s) (fun k => by simp only [laws_toEventS.l0]; rw [if_neg (by omega)]) (Ev.now s)
  · intro s i r hi hs h
    refine Ev.step (fun k => ?_) h
    simp only [laws_toEventS.l0, laws_toEvent.f, Option.bind_some]
    rw [if_pos (by omega), if_pos (by omega), if_pos (by omega), wr_succ hi (by omega)]
    simp [cvEvent, rd_T82]
theorem ev_eqEventS (l : List S80) (hl : l.length ≤ 1048576) : Ev (fun k => laws_eqEventS.f k l l) true := by
  unfold laws_eqEventS.f
  refine Ev.pos rfl ?_
  have h := ev_all (F := fun k i => laws_eqEventS.l0 k l l i) (n := l.length) (p := fun _ => true) (q := true) ?_ ?_ ?_ l.length 0 (by omega)
  · have e : (List.range' 0 l.length).all (fun _ => true) = true := by rw [List.all_eq_true]; intros; rfl
    rw [e] at h
    exact h
  · exact Ev.step (f := fun _ => some true) (fun k => by simp only [laws_eqEventS.l0]; rw [if_neg (by omega)]) (Ev.now true)
  · intro i _ h; cases h
  · intro i r hi _ h
    refine Ev.step (fun k => ?_) h
    simp only [laws_eqEventS.l0, laws_eqEvent.f, if_true, Option.bind_some]
    rw [if_pos (by omega), if_pos (by omega), if_pos (by omega), wr_succ hi (by omega)]
end Go.Proofs.Ytfjjlipfjddaiaa.Base
