/- A list of notes that was marked holds the marks.
   Conditions: none. -/
import Derived.Test.YtfjjlipfjddaiaaU31
import Derived.Test.YtfjjlipfjddaiaaU32
import Derived.Test.YtfjjlipfjddaiaaBase
namespace Go.Proofs.Ytfjjlipfjddaiaa.Base
open Go.RowKit Go.Proofs.YtfjjlipfjddaiaaW.PrintWords Go.Proofs.YtfjjlipfjddaiaaW.PrintMore Go.Proofs.Ytfjjlipfjddaiaa.U
def noteMark (m : Int) (j : Nat) : S109 := ⟨m + 2 * j, m + 2 * j + 1⟩
theorem ev_markNoteS (l : List S109) (hl : l.length ≤ 1048576) (m : Int) (h0 : 0 ≤ m) (hm : m ≤ 1099511627776) : Ev (fun k => laws_markNoteS.f k l m) (m + 2 * l.length, (List.range l.length).map (noteMark m)) := by
  unfold laws_markNoteS.f
  have h := ev_fold (F := fun k s i => laws_markNoteS.l0 k s.2 s.1 i) (n := l.length) (st := fun s i => (s.1 + 2, s.2.set i (noteMark m i))) (out := fun s => s)
    (Inv := fun s i => s.1 = m + 2 * i ∧ s.2.length = l.length) ?_ ?_ l.length 0 (m, l) (by omega) ⟨by simp, rfl⟩
  · have e := ev_fill (F := fun k s i => some s) (n := 0) (β := Int) (g := fun _ => 0) (fun s _ => Ev.now s) (fun s i r hi => absurd hi (Nat.not_lt_zero _)) [] rfl
    clear e
    have key : ∀ d i (s : Int × List S109), i + d = l.length → s.1 = m + 2 * i → s.2.length = l.length → (∀ j, j < i → s.2[j]? = some (noteMark m j)) →
        (List.range' i d).foldl (fun s i => (s.1 + 2, s.2.set i (noteMark m i))) s = (m + 2 * l.length, (List.range l.length).map (noteMark m)) := by
      intro d
      induction d with
      | zero =>
        intro i s hi h1 h2 h3
        obtain rfl : i = l.length := by omega
        refine Prod.ext h1 (List.ext_getElem? fun j => ?_)
        by_cases hj : j < l.length
        · simpa [hj] using h3 j hj
        · show s.2[j]? = _
          rw [List.getElem?_eq_none (by omega)]; simp [hj]
      | succ d ih =>
        intro i s hi h1 h2 h3
        rw [List.range'_succ, List.foldl_cons]
        refine ih (i + 1) _ (by omega) (by show s.1 + 2 = _; rw [h1]; omega) (by show (s.2.set i _).length = _; rw [List.length_set]; exact h2) (fun j hj => ?_)
        show (s.2.set i _)[j]? = _
        by_cases hji : j = i
        · subst hji; rw [List.getElem?_set_self (by omega)]
        · rw [List.getElem?_set_ne (by omega)]; exact h3 j (by omega)
    rw [key l.length 0 (m, l) (by omega) (by simp) rfl (fun j hj => absurd hj (Nat.not_lt_zero _))] at h
    exact h
  · intro s ⟨_, h2⟩
    exact Ev.step (f := fun _ => some s) (fun k => by simp only [laws_markNoteS.l0]; rw [if_neg (by omega)]) (Ev.now s)
  · intro s i hi ⟨h1, h2⟩
    refine ⟨⟨by show s.1 + 2 = _; rw [h1]; omega, by rw [List.length_set]; exact h2⟩, fun r h => Ev.step (fun k => ?_) h⟩
    have w1 : wrap64 (s.1 + 1) = s.1 + 1 := wr_id (by omega) (by omega)
    have w2 : wrap64 (s.1 + 1 + 1) = s.1 + 2 := by rw [wr_id (by omega) (by omega)]; omega
    have hi2 : i < s.2.length := by omega
    simp only [laws_markNoteS.l0, Option.bind_some, w1, w2]
    rw [if_pos (by omega), if_pos (by omega), wr_succ hi (by omega)]
    congr 1
    simp only [Int.toNat_natCast, rd_T109, List.set_set, List.getD_eq_getElem?_getD, List.getElem?_set_self hi2, Option.getD_some, noteMark, h1]
theorem ev_heldNoteS (n : Nat) (hl : n ≤ 1048576) (m : Int) (h0 : 0 ≤ m) (hm : m ≤ 1099511627776) : Ev (fun k => laws_heldNoteS.f k ((List.range n).map (noteMark m)) m) (m + 2 * n) := by
  unfold laws_heldNoteS.f
  have h := ev_fold (F := fun k s i => laws_heldNoteS.l0 k ((List.range n).map (noteMark m)) s i) (n := n) (st := fun s i => s + 2) (out := fun s => s)
    (Inv := fun s i => s = m + 2 * i) ?_ ?_ n 0 m (by omega) (by simp)
  · have e := fold_inv (n := n) (st := fun (s : Int) (i : Nat) => s + 2) (Inv := fun s i => s = m + 2 * i) (fun s i _ h => by rw [h]; omega) n 0 m (by omega) (by simp)
    rw [e] at h
    exact h
  · intro s _
    exact Ev.step (f := fun _ => some s) (fun k => by simp only [laws_heldNoteS.l0]; rw [if_neg (by simp)]) (Ev.now s)
  · intro s i hi hI
    refine ⟨by rw [hI]; omega, fun r h => Ev.step (fun k => ?_) h⟩
    have w1 : wrap64 (s + 1) = s + 1 := wr_id (by omega) (by omega)
    have w2 : wrap64 (s + 1 + 1) = s + 2 := by rw [wr_id (by omega) (by omega)]; omega
    have e : rd_T109 ((List.range n).map (noteMark m)) i = noteMark m i := by simp [rd_T109, List.getD_eq_getElem?_getD, hi]
    simp only [laws_heldNoteS.l0, e, w1, w2]
    rw [if_pos (by simpa using hi), if_pos (by omega), if_pos (by rw [hI]; rfl), if_pos (by rw [hI]; rfl), wr_succ hi (by omega)]
end Go.Proofs.Ytfjjlipfjddaiaa.Base
