/- LongestWindow of the program and of the reference are one plain function.
   Conditions: none. -/
import Derived.Test.YtfjjlipfjddaiaaU32
import Derived.Test.YtfjjlipfjddaiaaU33
import Derived.Test.YtfjjlipfjddaiaaSides
namespace Go.Proofs.Ytfjjlipfjddaiaa.Base
open Go.RowKit Go.Proofs.YtfjjlipfjddaiaaW.PrintWords Go.Proofs.YtfjjlipfjddaiaaW.PrintMore Go.Proofs.Ytfjjlipfjddaiaa.U
def gr (m x : Int) : Int := if m < x then x else m
theorem rd_foldl (l : List Int) (x : Int) : (List.range' 0 l.length).foldl (fun m (i : Nat) => gr m (rd l i)) x = l.foldl gr x := by
  have h := map_range_getD l 0 (fun y : Int => y)
  have e : (List.range' 0 l.length).foldl (fun m (i : Nat) => gr m (rd l i)) x = ((List.range l.length).map fun i => l.getD i 0).foldl gr x := by
    rw [List.foldl_map, List.range_eq_range']
    rfl
  rw [e, h, List.map_id']
def pds (l : List S96) : List Int := (List.range' 0 l.length).map fun (i : Nat) => (rd_T96 l i).f2
theorem pds_fold (l : List S96) (s : List Int) : (List.range' 0 l.length).foldl (fun s (i : Nat) => s ++ [(rd_T96 l i).f2]) s = s ++ pds l := by
  unfold pds
  generalize List.range' 0 l.length = r
  induction r generalizing s with
  | nil => simp
  | cons a r ih => rw [List.foldl_cons, ih, List.map_cons]; simp
theorem lw_fold (l : List S96) (x : Int) : lwMx l x = (pds l).foldl gr x := by
  unfold lwMx pds
  rw [List.foldl_map]
  rfl
def longest (ul : List S96) (us uw : Int) (dl : List S96) (ds dw m n : Int) : Int :=
  if behaveOk ul us uw dl ds dw m n = true then (([dw] ++ pds ul) ++ pds dl).foldl gr uw else -1
theorem lw_loop2 (L : List Int) (hL : L.length ≤ 4611686018427387904) (x : Int) : Ev (fun k => spec_LongestWindow.l2 k x L 0) (L.foldl gr x) := by
  have h := ev_fold (n := L.length) (F := fun k s i => spec_LongestWindow.l2 k s L i) (out := id) (st := fun m (i : Nat) => gr m (rd L i)) (Inv := fun _ _ => True) ?_ ?_ L.length 0 x (by omega) trivial
  · rw [rd_foldl] at h
    exact h
  · intro s _
    exact Ev.step (fun k => rfl) (Ev.neg (by omega) (Ev.now _))
  · intro s i hi _
    refine ⟨trivial, fun r hr => Ev.step (fun k => rfl) (Ev.pos (by omega) (Ev.pos (by omega) ?_))⟩
    rw [wr_succ hi hL]
    unfold gr at hr
    by_cases h : s < rd L i
    · rw [if_pos h] at hr; exact Ev.pos h hr
    · rw [if_neg h] at hr; exact Ev.neg h hr
theorem longest_spec (ul : List S96) (us uw : Int) (dl : List S96) (ds dw m n : Int) (hu : ul.length ≤ 1048576) (hd : dl.length ≤ 1048576) : Ev (fun k => spec_LongestWindow.f k ul us uw dl ds dw m n) (longest ul us uw dl ds dw m n) := by
  unfold spec_LongestWindow.f longest
  refine Ev.bind (behaveOk_spec ul us uw dl ds dw m n) ?_
  cases behaveOk ul us uw dl ds dw m n with
  | false => exact Ev.neg (by decide) (Ev.now _)
  | true =>
    refine Ev.pos rfl ?_
    rw [if_pos rfl, ← pds_fold dl, ← pds_fold ul]
    have hu' : (pds ul).length = ul.length := by simp [pds]
    have hd' : (pds dl).length = dl.length := by simp [pds]
    refine ev_fold (n := ul.length) (F := fun k s i => spec_LongestWindow.l0 k uw s i ul us uw dl ds dw m n) (out := fun s => ((List.range' 0 dl.length).foldl (fun s (i : Nat) => s ++ [(rd_T96 dl i).f2]) s).foldl gr uw) (st := fun s (i : Nat) => s ++ [(rd_T96 ul i).f2]) (Inv := fun s i => s.length = i + 1) ?_ ?_ ul.length 0 _ (by omega) rfl
    · intro s hs
      refine Ev.step (fun k => rfl) (Ev.neg (by omega) ?_)
      refine ev_fold (n := dl.length) (F := fun k s i => spec_LongestWindow.l1 k uw s i ul us uw dl ds dw m n) (out := fun s => s.foldl gr uw) (st := fun s (i : Nat) => s ++ [(rd_T96 dl i).f2]) (Inv := fun s i => s.length = ul.length + i + 1) ?_ ?_ dl.length 0 _ (by omega) hs
      · intro s hs
        exact Ev.step (fun k => rfl) (Ev.neg (by omega) (lw_loop2 s (by omega) uw))
      · intro s i hi hI
        refine ⟨by simp; omega, fun r hr => Ev.step (fun k => rfl) (Ev.pos (by omega) (Ev.pos (by omega) (Ev.pos (by omega) ?_)))⟩
        rw [wr_succ hi (by omega)]
        exact hr
    · intro s i hi hI
      refine ⟨by simp; omega, fun r hr => Ev.step (fun k => rfl) (Ev.pos (by omega) (Ev.pos (by omega) (Ev.pos (by omega) ?_)))⟩
      rw [wr_succ hi (by omega)]
      exact hr
theorem longest_impl (ul : List S96) (us uw : Int) (dl : List S96) (ds dw m n : Int) (hu : ul.length ≤ 1048576) (hd : dl.length ≤ 1048576) : Ev (fun k => impl_LongestWindow.f k ul us uw dl ds dw m n) (longest ul us uw dl ds dw m n) := by
  unfold impl_LongestWindow.f longest
  refine Ev.bind (behaveOk_impl ul hu us uw dl hd ds dw m n) ?_
  cases behaveOk ul us uw dl ds dw m n with
  | false => exact Ev.neg (by decide) (Ev.now _)
  | true =>
    refine Ev.pos rfl ?_
    rw [if_pos rfl, List.foldl_append, List.foldl_append, lw_fold, lw_fold]
    exact Ev.now _
end Go.Proofs.Ytfjjlipfjddaiaa.Base
