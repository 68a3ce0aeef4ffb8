/- MovedIn of the program and of the reference are one plain function.
   Conditions: none. -/
import Derived.Test.YtfjjlipfjddaiaaU7
import Derived.Test.YtfjjlipfjddaiaaU10
import Derived.Test.YtfjjlipfjddaiaaMoves
namespace Go.Proofs.Ytfjjlipfjddaiaa.Base
open Go.RowKit Go.Proofs.YtfjjlipfjddaiaaW.PrintWords Go.Proofs.YtfjjlipfjddaiaaW.PrintMore Go.Proofs.Ytfjjlipfjddaiaa.U
def mvSt (l : List S103) (now per : Int) (s : Int × Int) (i : Nat) : Int × Int :=
  if now - per < (rd_T103 l i).f0 ∧ (rd_T103 l i).f0 ≤ now then (s.1 + mx 0 (rd_T103 l i).f1, s.2 + mx 0 (-(rd_T103 l i).f1)) else s
def movedIn (l : List S103) (now per : Int) : Int × Int :=
  if mvOk l = true ∧ (0 ≤ now ∧ now ≤ 1000000000) ∧ (0 ≤ per ∧ per ≤ 1000) then (List.range' 0 l.length).foldl (mvSt l now per) (0, 0) else (0, 0)
def MvInv (s : Int × Int) (i : Nat) : Prop := 0 ≤ s.1 ∧ s.1 ≤ 1000 * i ∧ 0 ≤ s.2 ∧ s.2 ≤ 1000 * i
theorem mvInv_step {l : List S103} (hf : ∀ i : Nat, i < l.length → (0 ≤ (rd_T103 l i).f0 ∧ (rd_T103 l i).f0 ≤ 1000000000) ∧ -1000 ≤ (rd_T103 l i).f1 ∧ (rd_T103 l i).f1 ≤ 1000) (now per : Int) (s : Int × Int) (i : Nat) (hi : i < l.length) (h : MvInv s i) : MvInv (mvSt l now per s i) (i + 1) := by
  obtain ⟨h1, h2, h3, h4⟩ := h
  obtain ⟨_, f1, f2⟩ := hf i hi
  unfold MvInv mvSt
  split
  · simp only [mx]
    refine ⟨?_, ?_, ?_, ?_⟩ <;> split <;> omega
  · refine ⟨?_, ?_, ?_, ?_⟩ <;> omega
theorem movedIn_bounds (l : List S103) (now per : Int) : 0 ≤ (movedIn l now per).1 ∧ (movedIn l now per).1 ≤ 200000 ∧ 0 ≤ (movedIn l now per).2 ∧ (movedIn l now per).2 ≤ 200000 := by
  unfold movedIn
  split
  · rename_i h
    obtain ⟨hl, hf⟩ := mvOk_facts h.1
    have := fold_inv (n := l.length) (st := mvSt l now per) (Inv := MvInv) (fun s i hi hI => mvInv_step hf now per s i hi hI) l.length 0 (0, 0) (by omega) ⟨by simp, by simp, by simp, by simp⟩
    obtain ⟨h1, h2, h3, h4⟩ := this
    refine ⟨h1, ?_, h3, ?_⟩ <;> omega
  · simp
theorem movedIn_spec (l : List S103) (hl : l.length ≤ 1048576) (now per : Int) : Ev (fun k => spec_MovedIn.f k l now per) (movedIn l now per) := by
  unfold spec_MovedIn.f
  refine Ev.bind (mvOk_spec l hl) ?_
  unfold movedIn
  by_cases h1 : mvOk l = true
  · refine Ev.pos h1 ?_
    rw [tick_spec]
    refine Ev.bind0 rfl ?_
    by_cases h2 : 0 ≤ now ∧ now ≤ 1000000000
    · refine Ev.pos (decide_eq_true h2) ?_
      rw [in_spec]
      refine Ev.bind0 rfl ?_
      by_cases h3 : 0 ≤ per ∧ per ≤ 1000
      · rw [if_pos ⟨h1, h2, h3⟩, decide_eq_true h3]
        obtain ⟨_, hf⟩ := mvOk_facts h1
        refine Ev.step (f := fun k => spec_MovedIn.l0 k l now per 0 0 0) (fun k => by simp [spec_MovedIn.j0]) ?_
        refine ev_fold (F := fun k s i => spec_MovedIn.l0 k l now per s.1 s.2 i) (n := l.length) (st := mvSt l now per) (out := fun s => s) (Inv := MvInv) ?_ ?_ l.length 0 (0, 0) (by omega) ⟨by simp, by simp, by simp, by simp⟩
        · intro s _
          exact Ev.step (f := fun _ => some s) (fun k => by simp only [spec_MovedIn.l0]; rw [if_neg (by omega)]) (Ev.now s)
        · intro s i hi hI
          refine ⟨mvInv_step hf now per s i hi hI, fun r h => ?_⟩
          obtain ⟨i1, i2, i3, i4⟩ := hI
          obtain ⟨⟨f1, f2⟩, f3, f4⟩ := hf i hi
          have hnp : wrap64 (now - per) = now - per := wr_id (by omega) (by omega)
          by_cases g1 : (rd_T103 l i).f0 ≤ now - per
          · refine Ev.step (f := fun k => spec_MovedIn.j2 k l now per s.1 s.2 i true) (fun k => by simp only [spec_MovedIn.l0]; rw [if_pos (by omega), if_pos (by omega), hnp, if_pos g1]) ?_
            refine Ev.step (fun k => ?_) h
            simp only [spec_MovedIn.j2, mvSt]
            rw [if_pos trivial, if_neg (by omega), wr_succ hi (by omega)]
          · by_cases g2 : (rd_T103 l i).f0 > now
            · refine Ev.step (f := fun k => spec_MovedIn.j2 k l now per s.1 s.2 i true) (fun k => by simp only [spec_MovedIn.l0]; rw [if_pos (by omega), if_pos (by omega), hnp, if_neg g1, decide_eq_true g2]) ?_
              refine Ev.step (fun k => ?_) h
              simp only [spec_MovedIn.j2, mvSt]
              rw [if_pos trivial, if_neg (by omega), wr_succ hi (by omega)]
            · refine Ev.step (f := fun k => spec_MovedIn.j2 k l now per s.1 s.2 i false) (fun k => by simp only [spec_MovedIn.l0]; rw [if_pos (by omega), if_pos (by omega), hnp, if_neg g1, decide_eq_false g2]) ?_
              refine Ev.step (fun k => ?_) h
              simp only [spec_MovedIn.j2, mvSt]
              rw [if_neg (by decide), if_pos (by omega), if_pos (by omega), wr_succ hi (by omega), if_pos (show now - per < (rd_T103 l i).f0 ∧ (rd_T103 l i).f0 ≤ now from ⟨by omega, by omega⟩)]
              by_cases g3 : (rd_T103 l i).f1 > 0
              · rw [if_pos g3, wr_id (by omega) (by omega)]
                simp only [mx]
                rw [if_pos (by omega), if_neg (by omega), Int.add_zero]
              · rw [if_neg g3, wr_id (by omega) (by omega)]
                simp only [mx]
                rw [if_neg (by omega), Int.add_zero]
                by_cases g4 : (rd_T103 l i).f1 = 0
                · rw [g4]; simp
                · rw [if_pos (by omega)]; congr 1
      · rw [if_neg (fun h => h3 h.2.2), decide_eq_false h3]
        exact Ev.step (f := fun _ => some (0, 0)) (fun k => by simp [spec_MovedIn.j0]) (Ev.now _)
    · rw [if_neg (fun h => h2 h.2.1)]
      refine Ev.neg (fun h => h2 (of_decide_eq_true h)) ?_
      exact Ev.step (f := fun _ => some (0, 0)) (fun k => by simp [spec_MovedIn.j0]) (Ev.now _)
  · rw [if_neg (fun h => h1 h.1)]
    refine Ev.neg h1 ?_
    exact Ev.step (f := fun _ => some (0, 0)) (fun k => by simp [spec_MovedIn.j0]) (Ev.now _)
theorem movedIn_impl (l : List S103) (hl : l.length ≤ 1048576) (now per : Int) : Ev (fun k => impl_MovedIn.f k l now per) (movedIn l now per) := by
  unfold impl_MovedIn.f
  refine Ev.bind (mvOk_impl l hl) ?_
  unfold movedIn
  by_cases h1 : mvOk l = true
  · refine Ev.pos h1 ?_
    rw [tick_impl]
    refine Ev.bind0 rfl ?_
    by_cases h2 : 0 ≤ now ∧ now ≤ 1000000000
    · refine Ev.pos (decide_eq_true h2) ?_
      rw [in_impl]
      refine Ev.bind0 rfl ?_
      by_cases h3 : 0 ≤ per ∧ per ≤ 1000
      · rw [if_pos ⟨h1, h2, h3⟩, decide_eq_true h3]
        obtain ⟨_, hf⟩ := mvOk_facts h1
        refine Ev.step (f := fun k => impl_MovedIn.l0 k now per 0 0 l (l.length : Int) 0) (fun k => by simp [impl_MovedIn.j0]) ?_
        refine ev_fold (F := fun k s i => impl_MovedIn.l0 k now per s.1 s.2 l (l.length : Int) i) (n := l.length) (st := mvSt l now per) (out := fun s => s) (Inv := MvInv) ?_ ?_ l.length 0 (0, 0) (by omega) ⟨by simp, by simp, by simp, by simp⟩
        · intro s _
          exact Ev.step (f := fun _ => some s) (fun k => by simp only [impl_MovedIn.l0]; rw [if_neg (by omega)]) (Ev.now s)
        · intro s i hi hI
          refine ⟨mvInv_step hf now per s i hi hI, fun r h => Ev.step (fun k => ?_) h⟩
          obtain ⟨i1, i2, i3, i4⟩ := hI
          obtain ⟨⟨f1, f2⟩, f3, f4⟩ := hf i hi
          have hnp : wrap64 (now - per) = now - per := wr_id (by omega) (by omega)
          simp only [impl_MovedIn.l0, mvSt]
          rw [if_pos (by omega), if_pos (by omega), if_pos (by omega), hnp, wr_succ hi (by omega)]
          by_cases g1 : (rd_T103 l i).f0 > now - per
          · rw [if_pos g1]
            by_cases g2 : (rd_T103 l i).f0 ≤ now
            · have e1 : wrap64 (-(rd_T103 l i).f1) = -(rd_T103 l i).f1 := wr_id (by omega) (by omega)
              have m1 : 0 ≤ mx 0 (rd_T103 l i).f1 ∧ mx 0 (rd_T103 l i).f1 ≤ 1000 := by unfold mx; split <;> omega
              have m2 : 0 ≤ mx 0 (-(rd_T103 l i).f1) ∧ mx 0 (-(rd_T103 l i).f1) ≤ 1000 := by unfold mx; split <;> omega
              rw [if_pos g2, if_pos ⟨g1, g2⟩, e1, wr_id (by omega) (by omega), wr_id (by omega) (by omega)]
            · rw [if_neg g2, if_neg (fun h => g2 h.2)]
          · rw [if_neg g1, if_neg (fun h => g1 h.1)]
      · rw [if_neg (fun h => h3 h.2.2), decide_eq_false h3]
        exact Ev.step (f := fun _ => some (0, 0)) (fun k => by simp [impl_MovedIn.j0]) (Ev.now _)
    · rw [if_neg (fun h => h2 h.2.1)]
      refine Ev.neg (fun h => h2 (of_decide_eq_true h)) ?_
      exact Ev.step (f := fun _ => some (0, 0)) (fun k => by simp [impl_MovedIn.j0]) (Ev.now _)
  · rw [if_neg (fun h => h1 h.1)]
    refine Ev.neg h1 ?_
    exact Ev.step (f := fun _ => some (0, 0)) (fun k => by simp [impl_MovedIn.j0]) (Ev.now _)
end Go.Proofs.Ytfjjlipfjddaiaa.Base
