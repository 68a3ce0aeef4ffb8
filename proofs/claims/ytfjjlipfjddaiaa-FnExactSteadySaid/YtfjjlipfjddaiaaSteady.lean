/- Steady of the program and of the reference are one plain function.
   Conditions: none. -/
import Derived.Test.YtfjjlipfjddaiaaU50
import Derived.Test.YtfjjlipfjddaiaaU49
import Derived.Test.YtfjjlipfjddaiaaNotes
import Derived.Test.YtfjjlipfjddaiaaSides
namespace Go.Proofs.Ytfjjlipfjddaiaa.Base
open Go.RowKit Go.Proofs.YtfjjlipfjddaiaaW.PrintWords Go.Proofs.YtfjjlipfjddaiaaW.PrintMore Go.Proofs.Ytfjjlipfjddaiaa.U
def stSt (l : List S109) (now uw dw : Int) (s : Int × Int) (i : Nat) : Int × Int :=
  if (rd_T109 l i).f0 > now then s else
    ((if (rd_T109 l i).f0 > now - uw then mn s.1 (rd_T109 l i).f1 else s.1), (if (rd_T109 l i).f0 > now - dw then mx s.2 (rd_T109 l i).f1 else s.2))
def stFin (c : Int) (s : Int × Int) : Int := if c < s.1 then s.1 else if c > s.2 then s.2 else c
def StOk (ul : List S96) (us uw : Int) (dl : List S96) (ds dw m n : Int) (l : List S109) (now count want : Int) : Prop :=
  behaveOk ul us uw dl ds dw m n = true ∧ ntOk l = true ∧ (0 ≤ now ∧ now ≤ 1000000000) ∧ (0 ≤ count ∧ count ≤ 1000) ∧ (0 ≤ want ∧ want ≤ 1000)
instance (ul : List S96) (us uw : Int) (dl : List S96) (ds dw m n : Int) (l : List S109) (now count want : Int) : Decidable (StOk ul us uw dl ds dw m n l now count want) := by unfold StOk; infer_instance
def steady (ul : List S96) (us uw : Int) (dl : List S96) (ds dw m n : Int) (l : List S109) (now count want : Int) : Int :=
  if StOk ul us uw dl ds dw m n l now count want then stFin count ((List.range' 0 l.length).foldl (stSt l now uw dw) (want, want)) else -1
def StInv (want : Int) (s : Int × Int) (_ : Nat) : Prop := 0 ≤ s.1 ∧ s.1 ≤ want ∧ want ≤ s.2 ∧ s.2 ≤ 1000
theorem stInv_step {l : List S109} (hf : ∀ i : Nat, i < l.length → (0 ≤ (rd_T109 l i).f0 ∧ (rd_T109 l i).f0 ≤ 1000000000) ∧ 0 ≤ (rd_T109 l i).f1 ∧ (rd_T109 l i).f1 ≤ 1000) (now uw dw want : Int) (s : Int × Int) (i : Nat) (hi : i < l.length) (h : StInv want s i) : StInv want (stSt l now uw dw s i) (i + 1) := by
  obtain ⟨h1, h2, h3, h4⟩ := h
  obtain ⟨_, f1, f2⟩ := hf i hi
  unfold StInv stSt
  split
  · exact ⟨h1, h2, h3, h4⟩
  · simp only [mn, mx]
    refine ⟨?_, ?_, ?_, ?_⟩ <;> (split <;> first | omega | (split <;> omega))
/-- What a stabilized count is. -/
theorem steady_facts {ul : List S96} {us uw : Int} {dl : List S96} {ds dw m n : Int} {l : List S109} {now count want : Int} (h : StOk ul us uw dl ds dw m n l now count want) :
    (∃ lo hi, 0 ≤ lo ∧ lo ≤ want ∧ want ≤ hi ∧ hi ≤ 1000 ∧ steady ul us uw dl ds dw m n l now count want = stFin count (lo, hi)) := by
  have hI := fold_inv (n := l.length) (st := stSt l now uw dw) (Inv := StInv want) (fun s i hi hI => stInv_step (ntOk_facts h.2.1).2 now uw dw want s i hi hI) l.length 0 (want, want) (by omega) ⟨h.2.2.2.2.1, Int.le_refl _, Int.le_refl _, h.2.2.2.2.2⟩
  obtain ⟨h1, h2, h3, h4⟩ := hI
  exact ⟨_, _, h1, h2, h3, h4, by unfold steady; rw [if_pos h]⟩
theorem stFin_range {c want lo hi : Int} (h1 : lo ≤ want) (h2 : want ≤ hi) : (c ≤ stFin c (lo, hi) ∧ stFin c (lo, hi) ≤ want) ∨ (want ≤ stFin c (lo, hi) ∧ stFin c (lo, hi) ≤ c) := by
  unfold stFin
  simp only
  split
  · omega
  · split <;> omega
theorem steady_range (ul : List S96) (us uw : Int) (dl : List S96) (ds dw m n : Int) (l : List S109) (now count want : Int) : steady ul us uw dl ds dw m n l now count want = -1 ∨ (StOk ul us uw dl ds dw m n l now count want ∧ 0 ≤ steady ul us uw dl ds dw m n l now count want ∧ steady ul us uw dl ds dw m n l now count want ≤ 1000) := by
  by_cases h : StOk ul us uw dl ds dw m n l now count want
  · right
    obtain ⟨lo, hi, _, g1, g2, _, e⟩ := steady_facts h
    have := stFin_range (c := count) g1 g2
    rw [e]
    obtain ⟨_, _, _, ⟨c1, c2⟩, w1, w2⟩ := h
    refine ⟨⟨‹_›, ‹_›, ‹_›, ⟨c1, c2⟩, w1, w2⟩, ?_, ?_⟩ <;> rcases this with this | this <;> omega
  · left; unfold steady; rw [if_neg h]
/-- Without windows it is the count that is wanted. -/
theorem steady_none (ul : List S96) (us : Int) (dl : List S96) (ds m n : Int) (l : List S109) (now count want : Int) (h : StOk ul us 0 dl ds 0 m n l now count want) : steady ul us 0 dl ds 0 m n l now count want = want := by
  unfold steady
  rw [if_pos h]
  have e : (List.range' 0 l.length).foldl (stSt l now 0 0) (want, want) = (want, want) := by
    have := fold_inv (n := l.length) (st := stSt l now 0 0) (Inv := fun s _ => s = (want, want)) (fun s i _ hI => by
      subst hI
      unfold stSt
      by_cases g : (rd_T109 l i).f0 > now
      · rw [if_pos g]
      · rw [if_neg g, if_neg (by omega), if_neg (by omega)]) l.length 0 (want, want) (by omega) rfl
    exact this
  rw [e]
  unfold stFin
  simp only
  split
  · rfl
  · split <;> omega
theorem steady_spec (ul : List S96) (us uw : Int) (dl : List S96) (ds dw m n : Int) (l : List S109) (hl : l.length ≤ 1048576) (now count want : Int) : Ev (fun k => spec_Steady.f k ul us uw dl ds dw m n l now count want) (steady ul us uw dl ds dw m n l now count want) := by
  unfold spec_Steady.f
  refine Ev.bind (behaveOk_spec ul us uw dl ds dw m n) ?_
  by_cases h0 : behaveOk ul us uw dl ds dw m n = true
  case neg =>
    rw [show steady ul us uw dl ds dw m n l now count want = -1 from if_neg (fun h => h0 h.1)]
    exact Ev.neg h0 (Ev.step (f := fun _ => some (-1)) (fun k => by simp [spec_Steady.j0]) (Ev.now _))
  refine Ev.pos h0 (Ev.bind (ntOk_spec l hl) ?_)
  by_cases h1 : ntOk l = true
  case neg =>
    rw [show steady ul us uw dl ds dw m n l now count want = -1 from if_neg (fun h => h1 h.2.1)]
    exact Ev.neg h1 (Ev.step (f := fun _ => some (-1)) (fun k => by simp [spec_Steady.j0]) (Ev.now _))
  refine Ev.pos h1 ?_
  rw [tick_spec, count_spec, count_spec]
  refine Ev.bind0 rfl ?_
  by_cases h2 : 0 ≤ now ∧ now ≤ 1000000000
  case neg =>
    rw [show steady ul us uw dl ds dw m n l now count want = -1 from if_neg (fun h => h2 h.2.2.1)]
    exact Ev.neg (fun h => h2 (of_decide_eq_true h)) (Ev.step (f := fun _ => some (-1)) (fun k => by simp [spec_Steady.j0]) (Ev.now _))
  refine Ev.pos (decide_eq_true h2) (Ev.bind0 rfl ?_)
  by_cases h3 : 0 ≤ count ∧ count ≤ 1000
  case neg =>
    rw [show steady ul us uw dl ds dw m n l now count want = -1 from if_neg (fun h => h3 h.2.2.2.1)]
    exact Ev.neg (fun h => h3 (of_decide_eq_true h)) (Ev.step (f := fun _ => some (-1)) (fun k => by simp [spec_Steady.j0]) (Ev.now _))
  refine Ev.pos (decide_eq_true h3) (Ev.bind0 rfl ?_)
  by_cases h4 : 0 ≤ want ∧ want ≤ 1000
  case neg =>
    rw [show steady ul us uw dl ds dw m n l now count want = -1 from if_neg (fun h => h4 h.2.2.2.2), decide_eq_false h4]
    exact Ev.step (f := fun _ => some (-1)) (fun k => by simp [spec_Steady.j0]) (Ev.now _)
  rw [show steady ul us uw dl ds dw m n l now count want = _ from if_pos ⟨h0, h1, h2, h3, h4⟩, decide_eq_true h4]
  obtain ⟨_, hf⟩ := ntOk_facts h1
  obtain ⟨hu, hd, _, _, _⟩ := behaveOk_facts h0
  obtain ⟨_, _, ⟨uw0, uw1⟩, _⟩ := sideOk_facts hu
  obtain ⟨_, _, ⟨dw0, dw1⟩, _⟩ := sideOk_facts hd
  have e1 : wrap64 (now - uw) = now - uw := wr_id (by omega) (by omega)
  have e2 : wrap64 (now - dw) = now - dw := wr_id (by omega) (by omega)
  refine Ev.step (f := fun k => spec_Steady.l0 k l now count want want 0 ul us uw dl ds dw m n) (fun k => by simp [spec_Steady.j0]) ?_
  refine ev_fold (F := fun k s i => spec_Steady.l0 k l now count s.1 s.2 i ul us uw dl ds dw m n) (n := l.length) (st := stSt l now uw dw) (out := stFin count) (Inv := StInv want) ?_ ?_ l.length 0 (want, want) (by omega) ⟨h4.1, Int.le_refl _, Int.le_refl _, h4.2⟩
  · intro s _
    exact Ev.step (f := fun _ => some (stFin count s)) (fun k => by simp only [spec_Steady.l0, stFin]; rw [if_neg (by omega)]; split; rfl; split <;> rfl) (Ev.now _)
  · intro s i hi hI
    refine ⟨stInv_step hf now uw dw want s i hi hI, fun r h => ?_⟩
    refine Ev.step (f := fun k => spec_Steady.j2 k l now count s.1 s.2 i (decide ((rd_T109 l i).f0 > now - uw ∧ (rd_T109 l i).f0 ≤ now ∧ (rd_T109 l i).f1 < s.1)) ul us uw dl ds dw m n (rd_T109 l i).f0 (rd_T109 l i).f1) (fun k => ?_) ?_
    · simp only [spec_Steady.l0]
      rw [if_pos (by omega), if_pos (by omega), e1]
      by_cases g1 : (rd_T109 l i).f0 > now - uw
      · rw [if_pos g1]
        by_cases g2 : (rd_T109 l i).f0 ≤ now
        · rw [if_pos g2]; simp [g1, g2]
        · rw [if_neg g2]; simp [g2]
      · rw [if_neg g1]; simp [g1]
    · refine Ev.step (fun k => ?_) h
      simp only [spec_Steady.j2, stSt, e2, wr_succ hi (show l.length ≤ 4611686018427387904 by omega)]
      by_cases g2 : (rd_T109 l i).f0 ≤ now
      · rw [if_neg (show ¬ (rd_T109 l i).f0 > now by omega)]
        by_cases g1 : (rd_T109 l i).f0 > now - uw
        · by_cases g3 : (rd_T109 l i).f1 < s.1
          · rw [decide_eq_true ⟨g1, g2, g3⟩]
            simp only [mn, mx, if_pos g1, if_pos g3, if_true]
            by_cases g4 : (rd_T109 l i).f0 > now - dw
            · simp only [if_pos g4, if_pos g2]
              by_cases g5 : (rd_T109 l i).f1 > s.2
              · rw [if_pos g5, if_pos (show s.2 < _ from g5)]
              · rw [if_neg g5, if_neg (show ¬ s.2 < _ from g5)]
            · simp only [if_neg g4]
          · rw [decide_eq_false (fun h => g3 h.2.2)]
            simp only [mn, mx, if_pos g1, if_neg g3, Bool.false_eq_true, if_false]
            by_cases g4 : (rd_T109 l i).f0 > now - dw
            · simp only [if_pos g4, if_pos g2]
              by_cases g5 : (rd_T109 l i).f1 > s.2
              · rw [if_pos g5, if_pos (show s.2 < _ from g5)]
              · rw [if_neg g5, if_neg (show ¬ s.2 < _ from g5)]
            · simp only [if_neg g4]
        · rw [decide_eq_false (fun h => g1 h.1)]
          simp only [mx, if_neg g1, Bool.false_eq_true, if_false]
          by_cases g4 : (rd_T109 l i).f0 > now - dw
          · simp only [if_pos g4, if_pos g2]
            by_cases g5 : (rd_T109 l i).f1 > s.2
            · rw [if_pos g5, if_pos (show s.2 < _ from g5)]
            · rw [if_neg g5, if_neg (show ¬ s.2 < _ from g5)]
          · simp only [if_neg g4]
      · rw [if_pos (show (rd_T109 l i).f0 > now by omega), decide_eq_false (fun h => g2 h.2.1)]
        simp only [Bool.false_eq_true, if_false, if_neg g2]
        split <;> rfl
theorem steady_impl (ul : List S96) (hul : ul.length ≤ 1048576) (us uw : Int) (dl : List S96) (hdl : dl.length ≤ 1048576) (ds dw m n : Int) (l : List S109) (hl : l.length ≤ 1048576) (now count want : Int) : Ev (fun k => impl_Steady.f k ul us uw dl ds dw m n l now count want) (steady ul us uw dl ds dw m n l now count want) := by
  unfold impl_Steady.f
  refine Ev.bind (behaveOk_impl ul hul us uw dl hdl ds dw m n) ?_
  by_cases h0 : behaveOk ul us uw dl ds dw m n = true
  case neg =>
    rw [show steady ul us uw dl ds dw m n l now count want = -1 from if_neg (fun h => h0 h.1)]
    exact Ev.neg h0 (Ev.step (f := fun _ => some (-1)) (fun k => by simp [impl_Steady.j0]) (Ev.now _))
  refine Ev.pos h0 (Ev.bind (ntOk_impl l hl) ?_)
  by_cases h1 : ntOk l = true
  case neg =>
    rw [show steady ul us uw dl ds dw m n l now count want = -1 from if_neg (fun h => h1 h.2.1)]
    exact Ev.neg h1 (Ev.step (f := fun _ => some (-1)) (fun k => by simp [impl_Steady.j0]) (Ev.now _))
  refine Ev.pos h1 ?_
  rw [tick_impl, count_impl, count_impl]
  refine Ev.bind0 rfl ?_
  by_cases h2 : 0 ≤ now ∧ now ≤ 1000000000
  case neg =>
    rw [show steady ul us uw dl ds dw m n l now count want = -1 from if_neg (fun h => h2 h.2.2.1)]
    exact Ev.neg (fun h => h2 (of_decide_eq_true h)) (Ev.step (f := fun _ => some (-1)) (fun k => by simp [impl_Steady.j0]) (Ev.now _))
  refine Ev.pos (decide_eq_true h2) (Ev.bind0 rfl ?_)
  by_cases h3 : 0 ≤ count ∧ count ≤ 1000
  case neg =>
    rw [show steady ul us uw dl ds dw m n l now count want = -1 from if_neg (fun h => h3 h.2.2.2.1)]
    exact Ev.neg (fun h => h3 (of_decide_eq_true h)) (Ev.step (f := fun _ => some (-1)) (fun k => by simp [impl_Steady.j0]) (Ev.now _))
  refine Ev.pos (decide_eq_true h3) (Ev.bind0 rfl ?_)
  by_cases h4 : 0 ≤ want ∧ want ≤ 1000
  case neg =>
    rw [show steady ul us uw dl ds dw m n l now count want = -1 from if_neg (fun h => h4 h.2.2.2.2), decide_eq_false h4]
    exact Ev.step (f := fun _ => some (-1)) (fun k => by simp [impl_Steady.j0]) (Ev.now _)
  rw [show steady ul us uw dl ds dw m n l now count want = _ from if_pos ⟨h0, h1, h2, h3, h4⟩, decide_eq_true h4]
  obtain ⟨_, hf⟩ := ntOk_facts h1
  obtain ⟨hu, hd, _, _, _⟩ := behaveOk_facts h0
  obtain ⟨_, _, ⟨uw0, uw1⟩, _⟩ := sideOk_facts hu
  obtain ⟨_, _, ⟨dw0, dw1⟩, _⟩ := sideOk_facts hd
  have e1 : wrap64 (now - uw) = now - uw := wr_id (by omega) (by omega)
  have e2 : wrap64 (now - dw) = now - dw := wr_id (by omega) (by omega)
  refine Ev.step (f := fun k => impl_Steady.l0 k now count want want l (l.length : Int) 0 ul us uw dl ds dw m n) (fun k => by simp [impl_Steady.j0]) ?_
  refine ev_fold (F := fun k s i => impl_Steady.l0 k now count s.1 s.2 l (l.length : Int) i ul us uw dl ds dw m n) (n := l.length) (st := stSt l now uw dw) (out := stFin count) (Inv := StInv want) ?_ ?_ l.length 0 (want, want) (by omega) ⟨h4.1, Int.le_refl _, Int.le_refl _, h4.2⟩
  · intro s _
    exact Ev.step (f := fun _ => some (stFin count s)) (fun k => by simp only [impl_Steady.l0, stFin]; rw [if_neg (by omega)]; split; rfl; split <;> rfl) (Ev.now _)
  · intro s i hi hI
    refine ⟨stInv_step hf now uw dw want s i hi hI, fun r h => Ev.step (fun k => ?_) h⟩
    simp only [impl_Steady.l0, stSt, e1, e2, wr_succ hi (show l.length ≤ 4611686018427387904 by omega)]
    rw [if_pos (by omega), if_pos (by omega), if_pos (by omega)]
    by_cases g0 : (rd_T109 l i).f0 > now
    · rw [if_pos g0, if_pos g0]
    · rw [if_neg g0, if_neg g0]
      by_cases g1 : (rd_T109 l i).f0 > now - uw
      · by_cases g2 : (rd_T109 l i).f0 > now - dw
        · simp only [if_pos g1, if_pos g2]
        · simp only [if_pos g1, if_neg g2]
      · by_cases g2 : (rd_T109 l i).f0 > now - dw
        · simp only [if_neg g1, if_pos g2]
        · simp only [if_neg g1, if_neg g2]
end Go.Proofs.Ytfjjlipfjddaiaa.Base
