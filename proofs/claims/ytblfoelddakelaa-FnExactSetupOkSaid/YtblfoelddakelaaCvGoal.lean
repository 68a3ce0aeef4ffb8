/- Copying a list of goals gives it; it equals itself; its size.
   Conditions: none. -/
import Derived.Test.YtblfoelddakelaaBase
import Derived.Test.YtblfoelddakelaaU10
import Derived.Test.YtblfoelddakelaaU2
import Derived.Test.YtblfoelddakelaaU7
import Derived.Test.YtblfoelddakelaaU6
namespace Go.Proofs.Ytblfoelddakelaa.Base
open Go.RowKit Go.Proofs.YtblfoelddakelaaW.PrintWords Go.Proofs.YtblfoelddakelaaW.PrintMore Go.Proofs.Ytblfoelddakelaa.U
def cvGoal (x : S98) : S49 := ⟨x.f0, x.f1, x.f2⟩
theorem ev_toGoalS (l : List S98) (hl : l.length ≤ 1048576) : Ev (fun k => laws_toGoalS.f k l) (l.map cvGoal) := by
  unfold laws_toGoalS.f
  refine Ev.pos (by omega) (Ev.pos (by simp; omega) ?_)
  have h := ev_fill (F := fun k s i => laws_toGoalS.l0 k l s i) (n := l.length) (g := fun i => cvGoal (l.getD i z98)) ?_ ?_ (List.replicate l.length z49) (by simp)
  · rw [map_range_getD] at h
    simpa using h
  · intro s hs
    exact Ev.step (f := fun _ => some s) (fun k => by simp only [laws_toGoalS.l0]; rw [if_neg (by omega)]) (Ev.now s)
  · intro s i r hi hs h
    refine Ev.step (fun k => ?_) h
    simp only [laws_toGoalS.l0, laws_toGoal.f, Option.bind_some]
    rw [if_pos (by omega), if_pos (by omega), if_pos (by omega), wr_succ hi (by omega)]
    simp [cvGoal, rd_T98]
theorem eqGoal_self (a : ByteArray) (b c : Int) : laws_eqGoal.f a b c a b c = some true := by
  unfold laws_eqGoal.f
  rw [if_pos rfl, if_pos rfl, if_pos rfl]
theorem ev_eqGoalS (l : List S49) (hl : l.length ≤ 1048576) : Ev (fun k => laws_eqGoalS.f k l l) true := by
  unfold laws_eqGoalS.f
  refine Ev.pos rfl ?_
  have h := ev_all (F := fun k i => laws_eqGoalS.l0 k l l i) (n := l.length) (p := fun _ => true) (q := true) ?_ ?_ ?_ l.length 0 (by omega)
  · have e : (List.range' 0 l.length).all (fun _ => true) = true := by rw [List.all_eq_true]; intros; rfl
    rw [e] at h
    exact h
  · exact Ev.step (f := fun _ => some true) (fun k => by simp only [laws_eqGoalS.l0]; rw [if_neg (by omega)]) (Ev.now true)
  · intro i _ h; cases h
  · intro i r hi _ h
    refine Ev.step (fun k => ?_) h
    simp only [laws_eqGoalS.l0, eqGoal_self, if_true, Option.bind_some]
    rw [if_pos (by omega), if_pos (by omega), if_pos (by omega), wr_succ hi (by omega)]
/-- The size of goals: too great, or what is left. -/
theorem szGoalS_ends (l : List S98) (hl : l.length ≤ 9223372036854775807) (hs : ∀ x ∈ l, x.f0.size ≤ 9223372036854775807) (L : Int) (h0 : 0 ≤ L) (hL : L ≤ 1048576) : Ev (fun k => laws_szGoalS.f k l L) (-1) ∨ ∃ L', Ev (fun k => laws_szGoalS.f k l L) L' ∧ 0 ≤ L' ∧ L' ≤ L ∧ l.length ≤ 1048576 := by
  unfold laws_szGoalS.f
  rw [sz_len hl h0 hL]
  by_cases h : L - (l.length : Int) < 0
  · left; simp only [if_pos h]; exact Ev.now _
  · simp only [if_neg h]
    have hn : l.length ≤ 1048576 := by omega
    have key : ∀ d i (M : Int), i + d = l.length → 0 ≤ M → M ≤ L → Ev (fun k => laws_szGoalS.l0 k l M (i : Int)) (-1) ∨ ∃ L', Ev (fun k => laws_szGoalS.l0 k l M (i : Int)) L' ∧ 0 ≤ L' ∧ L' ≤ L := by
      intro d
      induction d with
      | zero =>
        intro i M hi h1 h2
        right
        exact ⟨M, Ev.step (f := fun _ => some M) (fun k => by simp only [laws_szGoalS.l0]; rw [if_neg (by omega)]) (Ev.now M), h1, h2⟩
      | succ d ih =>
        intro i M hi h1 h2
        have hil : i < l.length := by omega
        have hsz : (rd_T98 l i).f0.size ≤ 9223372036854775807 := by
          have e : rd_T98 l i = l[i] := by simp [rd_T98, List.getD_eq_getElem?_getD, hil]
          rw [e]; exact hs _ (List.getElem_mem hil)
        have hw : wrap64 (M - ((rd_T98 l i).f0.size : Int)) = M - ((rd_T98 l i).f0.size : Int) := wr_id (by omega) (by omega)
        by_cases g : M - ((rd_T98 l i).f0.size : Int) < 0
        · left
          refine Ev.step (f := fun _ => some (-1)) (fun k => ?_) (Ev.now _)
          simp only [laws_szGoalS.l0, laws_szGoal.f, hw]
          rw [if_pos (by omega), if_pos (by omega), if_pos g, Option.bind_some, if_pos (by omega)]
        · have st : ∀ k, laws_szGoalS.l0 (k + 1) l M (i : Int) = laws_szGoalS.l0 k l (M - ((rd_T98 l i).f0.size : Int)) ((i + 1 : Nat) : Int) := by
            intro k
            simp only [laws_szGoalS.l0, laws_szGoal.f, hw]
            rw [if_pos (by omega), if_pos (by omega), if_neg g, Option.bind_some, if_neg g, wr_succ hil (by omega)]
          rcases ih (i + 1) (M - ((rd_T98 l i).f0.size : Int)) (by omega) (by omega) (by omega) with h' | ⟨L', h', h3, h4⟩
          · left; exact Ev.step st h'
          · right; exact ⟨L', Ev.step st h', h3, h4⟩
    rcases key l.length 0 (L - (l.length : Int)) (by omega) (by omega) (by omega) with h' | ⟨L', h', h3, h4⟩
    · left; exact h'
    · right; exact ⟨L', h', h3, h4, hn⟩
end Go.Proofs.Ytblfoelddakelaa.Base
