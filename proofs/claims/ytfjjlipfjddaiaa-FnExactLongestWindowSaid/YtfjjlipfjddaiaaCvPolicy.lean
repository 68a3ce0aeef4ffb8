/- Copying a list of Policys gives the list; a list of Policys equals itself.
   Conditions: none. -/
import Derived.Test.YtfjjlipfjddaiaaBase
import Derived.Test.YtfjjlipfjddaiaaU25
import Derived.Test.YtfjjlipfjddaiaaU29
namespace Go.Proofs.Ytfjjlipfjddaiaa.Base
open Go.RowKit Go.Proofs.YtfjjlipfjddaiaaW.PrintWords Go.Proofs.YtfjjlipfjddaiaaW.PrintMore Go.Proofs.Ytfjjlipfjddaiaa.U
def cvPolicy (x : S125) : S96 := ⟨x.f0, x.f1, x.f2⟩
theorem ev_toPolicyS (l : List S125) (hl : l.length ≤ 1048576) : Ev (fun k => laws_toPolicyS.f k l) (l.map cvPolicy) := by
  unfold laws_toPolicyS.f
  refine Ev.pos (by omega) (Ev.pos (by simp; omega) ?_)
  have h := ev_fill (F := fun k s i => laws_toPolicyS.l0 k l s i) (n := l.length) (g := fun i => cvPolicy (l.getD i z125)) ?_ ?_ (List.replicate l.length z96) (by simp)
  · rw [map_range_getD] at h
    simpa using h
  · intro s hs
    exact Ev.step (f := fun _ => some s) (fun k => by simp only [laws_toPolicyS.l0]; rw [if_neg (by omega)]) (Ev.now s)
  · intro s i r hi hs h
    refine Ev.step (fun k => ?_) h
    simp only [laws_toPolicyS.l0, laws_toPolicy.f, Option.bind_some]
    rw [if_pos (by omega), if_pos (by omega), if_pos (by omega), wr_succ hi (by omega)]
    simp [cvPolicy, rd_T125]
theorem ev_eqPolicyS (l : List S96) (hl : l.length ≤ 1048576) : Ev (fun k => laws_eqPolicyS.f k l l) true := by
  unfold laws_eqPolicyS.f
  refine Ev.pos rfl ?_
  have h := ev_all (F := fun k i => laws_eqPolicyS.l0 k l l i) (n := l.length) (p := fun _ => true) (q := true) ?_ ?_ ?_ l.length 0 (by omega)
  · have e : (List.range' 0 l.length).all (fun _ => true) = true := by rw [List.all_eq_true]; intros; rfl
    rw [e] at h
    exact h
  · exact Ev.step (f := fun _ => some true) (fun k => by simp only [laws_eqPolicyS.l0]; rw [if_neg (by omega)]) (Ev.now true)
  · intro i _ h; cases h
  · intro i r hi _ h
    refine Ev.step (fun k => ?_) h
    simp only [laws_eqPolicyS.l0, laws_eqPolicy.f, if_true, Option.bind_some]
    rw [if_pos (by omega), if_pos (by omega), if_pos (by omega), wr_succ hi (by omega)]
end Go.Proofs.Ytfjjlipfjddaiaa.Base
