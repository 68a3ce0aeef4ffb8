/- MovesOk of the program and of the reference are one plain test, and what it tells.
   Conditions: none. -/
import Derived.Test.YtfjjlipfjddaiaaU6
import Derived.Test.YtfjjlipfjddaiaaU9
import Derived.Test.YtfjjlipfjddaiaaTests
namespace Go.Proofs.Ytfjjlipfjddaiaa.Base
open Go.RowKit Go.Proofs.YtfjjlipfjddaiaaW.PrintWords Go.Proofs.YtfjjlipfjddaiaaW.PrintMore Go.Proofs.Ytfjjlipfjddaiaa.U
def mvP (l : List S103) (i : Nat) : Bool := decide ((0 ≤ (rd_T103 l i).f0 ∧ (rd_T103 l i).f0 ≤ 1000000000) ∧ (-1000 ≤ (rd_T103 l i).f1 ∧ (rd_T103 l i).f1 ≤ 1000) ∧ (0 < i → (rd_T103 l ((i - 1 : Nat) : Int)).f0 ≤ (rd_T103 l i).f0))
def mvOk (l : List S103) : Bool := (List.range' 0 l.length).all (mvP l) && decide (l.length ≤ 200)
theorem mvP_ite {α : Type} (l : List S103) (i : Nat) (a b : α) : (if mvP l i = true then a else b) = if decide (0 ≤ (rd_T103 l i).f0 ∧ (rd_T103 l i).f0 ≤ 1000000000) = true then (if decide (-1000 ≤ (rd_T103 l i).f1 ∧ (rd_T103 l i).f1 ≤ 1000) = true then (if (i : Int) > 0 then (if (rd_T103 l ((i - 1 : Nat) : Int)).f0 > (rd_T103 l i).f0 then b else a) else a) else b) else b := by
  unfold mvP
  by_cases h1 : 0 ≤ (rd_T103 l i).f0 ∧ (rd_T103 l i).f0 ≤ 1000000000
  · by_cases h2 : -1000 ≤ (rd_T103 l i).f1 ∧ (rd_T103 l i).f1 ≤ 1000
    · by_cases h3 : 0 < i
      · by_cases h4 : (rd_T103 l ((i - 1 : Nat) : Int)).f0 ≤ (rd_T103 l i).f0
        · have h5 : ¬ (rd_T103 l ((i - 1 : Nat) : Int)).f0 > (rd_T103 l i).f0 := by omega
          have h6 : (i : Int) > 0 := by omega
          rw [if_pos (decide_eq_true ⟨h1, h2, fun _ => h4⟩), if_pos (decide_eq_true h1), if_pos (decide_eq_true h2), if_pos h6, if_neg h5]
        · have h5 : (rd_T103 l ((i - 1 : Nat) : Int)).f0 > (rd_T103 l i).f0 := by omega
          have h6 : (i : Int) > 0 := by omega
          rw [if_neg (by intro h; exact h4 ((of_decide_eq_true h).2.2 h3)), if_pos (decide_eq_true h1), if_pos (decide_eq_true h2), if_pos h6, if_pos h5]
      · have h6 : ¬ (i : Int) > 0 := by omega
        rw [if_pos (decide_eq_true ⟨h1, h2, fun h => absurd h h3⟩), if_pos (decide_eq_true h1), if_pos (decide_eq_true h2), if_neg h6]
    · rw [if_neg (by intro h; exact h2 (of_decide_eq_true h).2.1), if_pos (decide_eq_true h1), if_neg (by intro h; exact h2 (of_decide_eq_true h))]
  · rw [if_neg (by intro h; exact h1 (of_decide_eq_true h).1), if_neg (by intro h; exact h1 (of_decide_eq_true h))]
theorem mvOk_spec (l : List S103) (hl : l.length ≤ 1048576) : Ev (fun k => spec_MovesOk.f k l) (mvOk l) := by
  unfold spec_MovesOk.f mvOk
  by_cases h : (l.length : Int) > 200
  · rw [decide_eq_false (by omega), Bool.and_false]
    exact Ev.pos h (Ev.now false)
  · rw [decide_eq_true (by omega)]
    refine Ev.neg h (ev_all1 (F := fun k i => spec_MovesOk.l0 k l i) (Ev.step (f := fun _ => some true) (fun k => by simp only [spec_MovesOk.l0]; rw [if_neg (by omega)]) (Ev.now true)) ?_)
    intro i k hi
    simp only [spec_MovesOk.l0, tick_spec, in_spec, Option.bind_some]
    rw [if_pos (by omega), if_pos (by omega), wr_succ hi (by omega), mvP_ite]
    by_cases hp : (i : Int) > 0
    · rw [wr_pred (by omega) (by omega), if_pos (show (0 : Int) ≤ ((i - 1 : Nat) : Int) by omega), if_pos (show ((i - 1 : Nat) : Int) < (l.length : Int) by omega)]
    · simp only [if_neg hp]
theorem mvOk_impl (l : List S103) (hl : l.length ≤ 1048576) : Ev (fun k => impl_MovesOk.f k l) (mvOk l) := by
  unfold impl_MovesOk.f mvOk
  refine ev_all1 (F := fun k i => impl_MovesOk.l0 k l l (l.length : Int) i) (Ev.step (f := fun _ => some (decide (l.length ≤ 200))) (fun k => by simp only [impl_MovesOk.l0]; rw [if_neg (by omega)]; congr 1; exact decide_eq_decide.2 (by omega)) (Ev.now _)) ?_
  intro i k hi
  simp only [impl_MovesOk.l0, tick_impl, in_impl, Option.bind_some]
  rw [if_pos (by omega), if_pos (by omega), if_pos (by omega), wr_succ hi (by omega), mvP_ite]
  by_cases hp : (i : Int) > 0
  · rw [wr_pred (by omega) (by omega), if_pos (show (0 : Int) ≤ ((i - 1 : Nat) : Int) by omega), if_pos (show ((i - 1 : Nat) : Int) < (l.length : Int) by omega)]
  · simp only [if_neg hp]
/-- What MovesOk tells. -/
theorem mvOk_facts {l : List S103} (h : mvOk l = true) : l.length ≤ 200 ∧ ∀ i : Nat, i < l.length → (0 ≤ (rd_T103 l i).f0 ∧ (rd_T103 l i).f0 ≤ 1000000000) ∧ -1000 ≤ (rd_T103 l i).f1 ∧ (rd_T103 l i).f1 ≤ 1000 := by
  unfold mvOk at h
  rw [Bool.and_eq_true, List.all_eq_true] at h
  refine ⟨of_decide_eq_true h.2, fun i hi => ?_⟩
  have := of_decide_eq_true (h.1 i (by rw [List.mem_range'_1]; omega))
  exact ⟨this.1, this.2.1⟩
end Go.Proofs.Ytfjjlipfjddaiaa.Base
