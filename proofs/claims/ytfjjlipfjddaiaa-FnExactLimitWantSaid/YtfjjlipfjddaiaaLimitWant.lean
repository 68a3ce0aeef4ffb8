/- LimitWant of the program and of the reference are one plain function.
   Conditions: none. -/
import Derived.Test.YtfjjlipfjddaiaaU49
import Derived.Test.YtfjjlipfjddaiaaU50
import Derived.Test.YtfjjlipfjddaiaaU48
import Derived.Test.YtfjjlipfjddaiaaUpBound
import Derived.Test.YtfjjlipfjddaiaaDownBound
namespace Go.Proofs.Ytfjjlipfjddaiaa.Base
open Go.RowKit Go.Proofs.YtfjjlipfjddaiaaW.PrintWords Go.Proofs.YtfjjlipfjddaiaaW.PrintMore Go.Proofs.Ytfjjlipfjddaiaa.U
def cutOf (x lo hi : Int) : Int := if x < lo then lo else if x > hi then hi else x
theorem cut_spec (x lo hi : Int) : spec_l06Cut.f x lo hi = some (cutOf x lo hi) := by
  unfold spec_l06Cut.f cutOf
  split
  · rfl
  · split <;> rfl
def LwOk (ul : List S96) (us uw : Int) (dl : List S96) (ds dw m n : Int) (l : List S103) (now count want : Int) : Prop :=
  behaveOk ul us uw dl ds dw m n = true ∧ mvOk l = true ∧ (0 ≤ now ∧ now ≤ 1000000000) ∧ (0 ≤ count ∧ count ≤ 1000) ∧ (0 ≤ want ∧ want ≤ 1000)
instance (ul : List S96) (us uw : Int) (dl : List S96) (ds dw m n : Int) (l : List S103) (now count want : Int) : Decidable (LwOk ul us uw dl ds dw m n l now count want) := by unfold LwOk; infer_instance
def limitWant (ul : List S96) (us uw : Int) (dl : List S96) (ds dw m n : Int) (l : List S103) (now count want : Int) : Int :=
  if LwOk ul us uw dl ds dw m n l now count want then cutOf (cutOf want (downBound dl ds dw l now count) (upBound ul us uw l now count)) m n else -1
theorem limitWant_spec (ul : List S96) (us uw : Int) (dl : List S96) (ds dw m n : Int) (l : List S103) (hl : l.length ≤ 1048576) (now count want : Int) : Ev (fun k => spec_LimitWant.f k ul us uw dl ds dw m n l now count want) (limitWant ul us uw dl ds dw m n l now count want) := by
  unfold spec_LimitWant.f
  refine Ev.bind (behaveOk_spec ul us uw dl ds dw m n) ?_
  by_cases h0 : behaveOk ul us uw dl ds dw m n = true
  case neg =>
    rw [show limitWant ul us uw dl ds dw m n l now count want = -1 from if_neg (fun h => h0 h.1)]
    exact Ev.neg h0 (Ev.step (f := fun _ => some (-1)) (fun k => by simp [spec_LimitWant.j0]) (Ev.now _))
  refine Ev.pos h0 (Ev.bind (mvOk_spec l hl) ?_)
  by_cases h1 : mvOk l = true
  case neg =>
    rw [show limitWant ul us uw dl ds dw m n l now count want = -1 from if_neg (fun h => h1 h.2.1)]
    exact Ev.neg h1 (Ev.step (f := fun _ => some (-1)) (fun k => by simp [spec_LimitWant.j0]) (Ev.now _))
  refine Ev.pos h1 ?_
  rw [tick_spec, count_spec, count_spec]
  refine Ev.bind0 rfl ?_
  by_cases h2 : 0 ≤ now ∧ now ≤ 1000000000
  case neg =>
    rw [show limitWant ul us uw dl ds dw m n l now count want = -1 from if_neg (fun h => h2 h.2.2.1)]
    exact Ev.neg (fun h => h2 (of_decide_eq_true h)) (Ev.step (f := fun _ => some (-1)) (fun k => by simp [spec_LimitWant.j0]) (Ev.now _))
  refine Ev.pos (decide_eq_true h2) (Ev.bind0 rfl ?_)
  by_cases h3 : 0 ≤ count ∧ count ≤ 1000
  case neg =>
    rw [show limitWant ul us uw dl ds dw m n l now count want = -1 from if_neg (fun h => h3 h.2.2.2.1)]
    exact Ev.neg (fun h => h3 (of_decide_eq_true h)) (Ev.step (f := fun _ => some (-1)) (fun k => by simp [spec_LimitWant.j0]) (Ev.now _))
  refine Ev.pos (decide_eq_true h3) (Ev.bind0 rfl ?_)
  by_cases h4 : 0 ≤ want ∧ want ≤ 1000
  case neg =>
    rw [show limitWant ul us uw dl ds dw m n l now count want = -1 from if_neg (fun h => h4 h.2.2.2.2), decide_eq_false h4]
    exact Ev.step (f := fun _ => some (-1)) (fun k => by simp [spec_LimitWant.j0]) (Ev.now _)
  rw [show limitWant ul us uw dl ds dw m n l now count want = _ from if_pos ⟨h0, h1, h2, h3, h4⟩, decide_eq_true h4]
  refine Ev.step (f := fun k => (spec_DownBound.f k dl ds dw l now count).bind fun t => ((spec_UpBound.f k ul us uw l now count).bind fun u => ((spec_l06Cut.f want t u).bind fun v => ((spec_l06Cut.f v m n).bind fun x => (some x))))) (fun k => by simp [spec_LimitWant.j0]) ?_
  refine Ev.bind (downBound_spec dl ds dw l hl now count) (Ev.bind (upBound_spec ul us uw l hl now count) ?_)
  simp only [cut_spec, Option.bind_some]
  exact Ev.now _
theorem limitWant_impl (ul : List S96) (hul : ul.length ≤ 1048576) (us uw : Int) (dl : List S96) (hdl : dl.length ≤ 1048576) (ds dw m n : Int) (l : List S103) (hl : l.length ≤ 1048576) (now count want : Int) : Ev (fun k => impl_LimitWant.f k ul us uw dl ds dw m n l now count want) (limitWant ul us uw dl ds dw m n l now count want) := by
  unfold impl_LimitWant.f
  refine Ev.bind (behaveOk_impl ul hul us uw dl hdl ds dw m n) ?_
  by_cases h0 : behaveOk ul us uw dl ds dw m n = true
  case neg =>
    rw [show limitWant ul us uw dl ds dw m n l now count want = -1 from if_neg (fun h => h0 h.1)]
    exact Ev.neg h0 (Ev.step (f := fun _ => some (-1)) (fun k => by simp [impl_LimitWant.j0]) (Ev.now _))
  refine Ev.pos h0 ?_
  rw [count_impl]
  refine Ev.bind0 rfl ?_
  by_cases h4 : 0 ≤ want ∧ want ≤ 1000
  case neg =>
    rw [show limitWant ul us uw dl ds dw m n l now count want = -1 from if_neg (fun h => h4 h.2.2.2.2), decide_eq_false h4]
    exact Ev.step (f := fun _ => some (-1)) (fun k => by simp [impl_LimitWant.j0]) (Ev.now _)
  rw [decide_eq_true h4]
  refine Ev.step (f := fun k => (impl_UpBound.f k ul us uw l now count).bind fun t => ((impl_DownBound.f k dl ds dw l now count).bind fun u => (if t < 0 then (some (-1)) else (if u < 0 then (some (-1)) else (some (mn (mx (mn (mx want u) t) m) n)))))) (fun k => by simp [impl_LimitWant.j0]) ?_
  refine Ev.bind (upBound_impl ul hul us uw l hl now count) (Ev.bind (downBound_impl dl hdl ds dw l hl now count) ?_)
  obtain ⟨hu, hd, m0, mn0, n0⟩ := behaveOk_facts h0
  by_cases h : mvOk l = true ∧ (0 ≤ now ∧ now ≤ 1000000000) ∧ (0 ≤ count ∧ count ≤ 1000)
  · have bu : BdOk ul us uw l now count := ⟨hu, h⟩
    have bd : BdOk dl ds dw l now count := ⟨hd, h⟩
    obtain ⟨u1, u2, _⟩ := upBound_facts bu
    obtain ⟨d1, d2, _⟩ := downBound_facts bd
    obtain ⟨h1, h2, h3⟩ := h
    rw [show limitWant ul us uw dl ds dw m n l now count want = _ from if_pos ⟨h0, h1, h2, h3, h4⟩]
    generalize upBound ul us uw l now count = u at *
    generalize downBound dl ds dw l now count = d at *
    refine Ev.neg (by omega) (Ev.neg (by omega) ?_)
    have e : cutOf (cutOf want d u) m n = mn (mx (mn (mx want d) u) m) n := by
      have e1 : cutOf want d u = mn (mx want d) u := by unfold cutOf mn mx; repeat' split; all_goals omega
      rw [e1]
      generalize mn (mx want d) u = y
      unfold cutOf mn mx; repeat' split; all_goals omega
    rw [e]
    exact Ev.now _
  · rw [show limitWant ul us uw dl ds dw m n l now count want = -1 from if_neg (fun g => h ⟨g.2.1, g.2.2.1, g.2.2.2.1⟩), show upBound ul us uw l now count = -1 from if_neg (fun g => h g.2)]
    exact Ev.pos (by omega) (Ev.now _)
end Go.Proofs.Ytfjjlipfjddaiaa.Base
