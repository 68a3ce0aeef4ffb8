/- TrimNotes of the program and of the reference are one plain function.
   Conditions: none. -/
import Derived.Test.YtfjjlipfjddaiaaU23
import Derived.Test.YtfjjlipfjddaiaaU28
import Derived.Test.YtfjjlipfjddaiaaNotes
namespace Go.Proofs.Ytfjjlipfjddaiaa.Base
open Go.RowKit Go.Proofs.YtfjjlipfjddaiaaW.PrintWords Go.Proofs.YtfjjlipfjddaiaaW.PrintMore Go.Proofs.Ytfjjlipfjddaiaa.U
def trSt (l : List S109) (now win : Int) (s : List S109) (i : Nat) : List S109 :=
  if (rd_T109 l i).f0 > now - win then s ++ [rd_T109 l i] else s
def trimNotes (l : List S109) (now win : Int) : List S109 :=
  if ntOk l = true ∧ (0 ≤ now ∧ now ≤ 1000000000) ∧ (0 ≤ win ∧ win ≤ 1000) then (List.range' 0 l.length).foldl (trSt l now win) [] else []
def TrInv (s : List S109) (i : Nat) : Prop := s.length ≤ i
theorem trInv_step {l : List S109} (now win : Int) (s : List S109) (i : Nat) (h : TrInv s i) : TrInv (trSt l now win s i) (i + 1) := by
  unfold TrInv trSt at *
  split
  · rw [List.length_append]; simp; omega
  · omega
theorem trimNotes_len (l : List S109) (now win : Int) : (trimNotes l now win).length ≤ 200 := by
  unfold trimNotes
  split
  · rename_i h
    have := fold_inv (n := l.length) (st := trSt l now win) (Inv := TrInv) (fun s i _ hI => trInv_step now win s i hI) l.length 0 [] (by omega) (Nat.zero_le _)
    exact Nat.le_trans this (ntOk_facts h.1).1
  · simp
theorem trimNotes_spec (l : List S109) (hl : l.length ≤ 1048576) (now win : Int) : Ev (fun k => spec_TrimNotes.f k l now win) (trimNotes l now win) := by
  unfold spec_TrimNotes.f
  refine Ev.bind0 rfl (Ev.bind (ntOk_spec l hl) ?_)
  unfold trimNotes
  by_cases h1 : ntOk l = true
  · refine Ev.pos h1 ?_
    rw [tick_spec]
    refine Ev.bind0 rfl ?_
    by_cases h2 : 0 ≤ now ∧ now ≤ 1000000000
    · refine Ev.pos (decide_eq_true h2) ?_
      rw [in_spec]
      refine Ev.bind0 rfl ?_
      by_cases h3 : 0 ≤ win ∧ win ≤ 1000
      · rw [if_pos ⟨h1, h2, h3⟩, decide_eq_true h3]
        refine Ev.step (f := fun k => spec_TrimNotes.l0 k l now win [] 0) (fun k => by simp [spec_TrimNotes.j0]) ?_
        refine ev_fold (F := fun k s i => spec_TrimNotes.l0 k l now win s i) (n := l.length) (st := trSt l now win) (out := fun s => s) (Inv := TrInv) ?_ ?_ l.length 0 [] (by omega) (Nat.zero_le _)
        · intro s _
          exact Ev.step (f := fun _ => some s) (fun k => by simp only [spec_TrimNotes.l0]; rw [if_neg (by omega)]) (Ev.now s)
        · intro s i hi hI
          refine ⟨trInv_step now win s i hI, fun r h => Ev.step (fun k => ?_) h⟩
          have hI' : s.length ≤ i := hI
          have hnp : wrap64 (now - win) = now - win := wr_id (by omega) (by omega)
          simp only [spec_TrimNotes.l0, trSt]
          rw [if_pos (by omega), if_pos (by omega), hnp, wr_succ hi (by omega)]
          by_cases g : (rd_T109 l i).f0 > now - win
          · rw [if_pos g, if_pos (by omega), if_pos g]
          · rw [if_neg g, if_neg g]
      · rw [if_neg (fun h => h3 h.2.2), decide_eq_false h3]
        exact Ev.step (f := fun _ => some []) (fun k => by simp [spec_TrimNotes.j0]) (Ev.now _)
    · rw [if_neg (fun h => h2 h.2.1)]
      refine Ev.neg (fun h => h2 (of_decide_eq_true h)) ?_
      exact Ev.step (f := fun _ => some []) (fun k => by simp [spec_TrimNotes.j0]) (Ev.now _)
  · rw [if_neg (fun h => h1 h.1)]
    refine Ev.neg h1 ?_
    exact Ev.step (f := fun _ => some []) (fun k => by simp [spec_TrimNotes.j0]) (Ev.now _)
theorem trimNotes_impl (l : List S109) (hl : l.length ≤ 1048576) (now win : Int) : Ev (fun k => impl_TrimNotes.f k l now win) (trimNotes l now win) := by
  unfold impl_TrimNotes.f
  refine Ev.bind (ntOk_impl l hl) ?_
  unfold trimNotes
  by_cases h1 : ntOk l = true
  · refine Ev.pos h1 ?_
    rw [tick_impl]
    refine Ev.bind0 rfl ?_
    by_cases h2 : 0 ≤ now ∧ now ≤ 1000000000
    · refine Ev.pos (decide_eq_true h2) ?_
      rw [in_impl]
      refine Ev.bind0 rfl ?_
      by_cases h3 : 0 ≤ win ∧ win ≤ 1000
      · rw [if_pos ⟨h1, h2, h3⟩, decide_eq_true h3]
        refine Ev.step (f := fun k => impl_TrimNotes.l0 k now win [] l (l.length : Int) 0) (fun k => by simp [impl_TrimNotes.j0]) ?_
        refine ev_fold (F := fun k s i => impl_TrimNotes.l0 k now win s l (l.length : Int) i) (n := l.length) (st := trSt l now win) (out := fun s => s) (Inv := TrInv) ?_ ?_ l.length 0 [] (by omega) (Nat.zero_le _)
        · intro s _
          exact Ev.step (f := fun _ => some s) (fun k => by simp only [impl_TrimNotes.l0]; rw [if_neg (by omega)]) (Ev.now s)
        · intro s i hi hI
          refine ⟨trInv_step now win s i hI, fun r h => Ev.step (fun k => ?_) h⟩
          have hI' : s.length ≤ i := hI
          have hnp : wrap64 (now - win) = now - win := wr_id (by omega) (by omega)
          simp only [impl_TrimNotes.l0, trSt]
          rw [if_pos (by omega), if_pos (by omega), if_pos (by omega), hnp, wr_succ hi (by omega)]
          by_cases g : (rd_T109 l i).f0 > now - win
          · rw [if_pos g, if_pos (by omega), if_pos g]
          · rw [if_neg g, if_neg g]
      · rw [if_neg (fun h => h3 h.2.2), decide_eq_false h3]
        exact Ev.step (f := fun _ => some []) (fun k => by simp [impl_TrimNotes.j0]) (Ev.now _)
    · rw [if_neg (fun h => h2 h.2.1)]
      refine Ev.neg (fun h => h2 (of_decide_eq_true h)) ?_
      exact Ev.step (f := fun _ => some []) (fun k => by simp [impl_TrimNotes.j0]) (Ev.now _)
  · rw [if_neg (fun h => h1 h.1)]
    refine Ev.neg h1 ?_
    exact Ev.step (f := fun _ => some []) (fun k => by simp [impl_TrimNotes.j0]) (Ev.now _)
end Go.Proofs.Ytfjjlipfjddaiaa.Base
