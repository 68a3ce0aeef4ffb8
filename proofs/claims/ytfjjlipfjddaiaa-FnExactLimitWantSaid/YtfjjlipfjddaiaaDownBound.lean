/- DownBound of the program and of the reference are one plain function.
   Conditions: none. -/
import Derived.Test.YtfjjlipfjddaiaaU46
import Derived.Test.YtfjjlipfjddaiaaU44
import Derived.Test.YtfjjlipfjddaiaaU43
import Derived.Test.YtfjjlipfjddaiaaUpBound
namespace Go.Proofs.Ytfjjlipfjddaiaa.Base
open Go.RowKit Go.Proofs.YtfjjlipfjddaiaaW.PrintWords Go.Proofs.YtfjjlipfjddaiaaW.PrintMore Go.Proofs.Ytfjjlipfjddaiaa.U
theorem boundsDown_impl (ps : List S96) (sel win : Int) (hs : sideOk ps sel win = true) (l : List S103) (hl : l.length ≤ 1048576) (now count z : Int) (hc : 0 ≤ count ∧ count ≤ 1000) : Ev (fun k => impl_boundsDown.f k ps sel win l now count z) (lmOf dnX ps l now count) := by
  unfold impl_boundsDown.f
  obtain ⟨hp, _, _, hf⟩ := sideOk_facts hs
  refine ev_fold (F := fun k s i => impl_boundsDown.l0 k l now count s.1 s.2 ps (ps.length : Int) i) (n := ps.length) (st := lmSt dnX ps l now count) (out := fun s => s) (Inv := fun _ _ => True) ?_ ?_ ps.length 0 (1000, 0) (by omega) trivial
  · intro s _
    exact Ev.step (f := fun _ => some s) (fun k => by simp only [impl_boundsDown.l0]; rw [if_neg (by omega)]) (Ev.now s)
  · intro s i hi _
    refine ⟨trivial, fun r h => ?_⟩
    refine Ev.step (f := fun k => (impl_MovedIn.f k l now (rd_T96 ps i).f2).bind fun b => impl_boundsDown.l0 k l now count (lmSt dnX ps l now count s i).1 (lmSt dnX ps l now count s i).2 ps (ps.length : Int) ((i + 1 : Nat) : Int)) (fun k => ?_) (Ev.bind (movedIn_impl l hl now _) h)
    simp only [impl_boundsDown.l0]
    rw [if_pos (by omega), if_pos (by omega), if_pos (by omega), wr_succ hi (by omega)]
    cases hm : impl_MovedIn.f k l now (rd_T96 ps i).f2 with
    | none => rfl
    | some b =>
      obtain rfl : movedIn l now (rd_T96 ps i).f2 = b := Ev.unique (movedIn_impl l hl now _) (Ev.of (g := fun k => impl_MovedIn.f k l now (rd_T96 ps i).f2) (fun k => impl_MovedIn.mono _ _ _ k) hm)
      simp only [Option.bind_some]
      rw [baseOf_wrap l now count _ hc]
      have e := dnX_impl (kind := (rd_T96 ps i).f0) (per := (rd_T96 ps i).f2) (baseOf_bounds l now count (rd_T96 ps i).f2 hc) (hf i hi).2.1
      unfold baseOf at e
      rw [e]
      rfl
theorem downBound_impl (ps : List S96) (hps : ps.length ≤ 1048576) (sel win : Int) (l : List S103) (hl : l.length ≤ 1048576) (now count : Int) : Ev (fun k => impl_DownBound.f k ps sel win l now count) (downBound ps sel win l now count) := by
  unfold impl_DownBound.f
  refine Ev.bind (sideOk_impl ps hps sel win) ?_
  by_cases h0 : sideOk ps sel win = true
  case neg => rw [show downBound ps sel win l now count = -1 from if_neg (fun h => h0 h.1)]; exact Ev.neg h0 (Ev.step (f := fun _ => some (-1)) (fun k => by simp [impl_DownBound.j0]) (Ev.now _))
  refine Ev.pos h0 (Ev.bind (mvOk_impl l hl) ?_)
  by_cases h1 : mvOk l = true
  case neg => rw [show downBound ps sel win l now count = -1 from if_neg (fun h => h1 h.2.1)]; exact Ev.neg h1 (Ev.step (f := fun _ => some (-1)) (fun k => by simp [impl_DownBound.j0]) (Ev.now _))
  refine Ev.pos h1 ?_
  rw [tick_impl, count_impl]
  refine Ev.bind0 rfl ?_
  by_cases h2 : 0 ≤ now ∧ now ≤ 1000000000
  case neg => rw [show downBound ps sel win l now count = -1 from if_neg (fun h => h2 h.2.2.1)]; exact Ev.neg (fun h => h2 (of_decide_eq_true h)) (Ev.step (f := fun _ => some (-1)) (fun k => by simp [impl_DownBound.j0]) (Ev.now _))
  refine Ev.pos (decide_eq_true h2) (Ev.bind0 rfl ?_)
  by_cases h3 : 0 ≤ count ∧ count ≤ 1000
  case neg => rw [show downBound ps sel win l now count = -1 from if_neg (fun h => h3 h.2.2.2), decide_eq_false h3]; exact Ev.step (f := fun _ => some (-1)) (fun k => by simp [impl_DownBound.j0]) (Ev.now _)
  rw [show downBound ps sel win l now count = _ from if_pos ⟨h0, h1, h2, h3⟩, decide_eq_true h3]
  refine Ev.step (f := fun k => (if sel = 2 then (some count) else (if (ps.length : Int) = 0 then (some 0) else ((impl_boundsDown.f k ps sel win l now count 0).bind fun b => (if sel = 0 then (some (mn count b.1)) else (some (mn count b.2))))))) (fun k => by simp [impl_DownBound.j0]) ?_
  by_cases g : sel = 2
  · rw [if_pos g]; exact Ev.pos g (Ev.now _)
  · rw [if_neg g]
    refine Ev.neg g ?_
    by_cases g1 : ps.length = 0
    · rw [if_pos g1]; exact Ev.pos (by omega) (Ev.now _)
    · rw [if_neg g1]
      refine Ev.neg (by omega) (Ev.bind (boundsDown_impl ps sel win h0 l hl now count 0 h3) ?_)
      by_cases g2 : sel = 0
      · simp only [if_pos g2]; exact Ev.now _
      · simp only [if_neg g2]; exact Ev.now _
/-- The reference's bound so far. -/
def dbSoFar (sel : Int) (s : Int × Int) (i : Int) : Int := if i = 0 then -1 else if sel = 0 then s.1 else s.2
theorem dnJ2 (k : Nat) (l : List S103) (now count b i x : Int) (ps : List S96) (sel win : Int) : spec_DownBound.j2 (k + 1) l now count b i x ps sel win = spec_DownBound.l0 k l now count (if b < 0 ∨ (sel = 0 ∧ mx 0 x < b) ∨ (sel = 1 ∧ mx 0 x > b) then mx 0 x else b) (wrap64 (i + 1)) ps sel win := by
  simp only [spec_DownBound.j2]
  have e : ∀ y : Int, (if b < 0 then (spec_DownBound.l0 k l now count y (wrap64 (i + 1)) ps sel win) else (if sel = 0 then (if y < b then (spec_DownBound.l0 k l now count y (wrap64 (i + 1)) ps sel win) else (if sel = 1 then (if y > b then (spec_DownBound.l0 k l now count y (wrap64 (i + 1)) ps sel win) else (spec_DownBound.l0 k l now count b (wrap64 (i + 1)) ps sel win)) else (spec_DownBound.l0 k l now count b (wrap64 (i + 1)) ps sel win))) else (if sel = 1 then (if y > b then (spec_DownBound.l0 k l now count y (wrap64 (i + 1)) ps sel win) else (spec_DownBound.l0 k l now count b (wrap64 (i + 1)) ps sel win)) else (spec_DownBound.l0 k l now count b (wrap64 (i + 1)) ps sel win)))) = spec_DownBound.l0 k l now count (if b < 0 ∨ (sel = 0 ∧ y < b) ∨ (sel = 1 ∧ y > b) then y else b) (wrap64 (i + 1)) ps sel win := by
    intro y
    by_cases h1 : b < 0
    · rw [if_pos h1, if_pos (.inl h1)]
    · rw [if_neg h1]
      by_cases h2 : sel = 0
      · rw [if_pos h2]
        by_cases h3 : y < b
        · rw [if_pos h3, if_pos (.inr (.inl ⟨h2, h3⟩))]
        · rw [if_neg h3, if_neg (show ¬ sel = 1 by omega), if_neg (by omega)]
      · rw [if_neg h2]
        by_cases h3 : sel = 1
        · rw [if_pos h3]
          by_cases h4 : y > b
          · rw [if_pos h4, if_pos (.inr (.inr ⟨h3, h4⟩))]
          · rw [if_neg h4, if_neg (by omega)]
        · rw [if_neg h3, if_neg (by omega)]
  unfold mx
  by_cases hx : x < 0
  · rw [if_pos hx, e 0, if_neg (show ¬ 0 < x by omega)]
  · by_cases hx' : 0 < x
    · rw [if_neg hx, e x, if_pos hx']
    · obtain rfl : x = 0 := by omega
      rw [if_neg hx, e 0, if_neg hx']
theorem downBound_spec (ps : List S96) (sel win : Int) (l : List S103) (hl : l.length ≤ 1048576) (now count : Int) : Ev (fun k => spec_DownBound.f k ps sel win l now count) (downBound ps sel win l now count) := by
  unfold spec_DownBound.f
  refine Ev.bind (good_spec ps sel win l hl now count) ?_
  by_cases h : BdOk ps sel win l now count
  case neg => rw [show downBound ps sel win l now count = -1 from if_neg h]; exact Ev.neg (fun g => h (of_decide_eq_true g)) (Ev.now _)
  refine Ev.pos (decide_eq_true h) ?_
  rw [show downBound ps sel win l now count = _ from if_pos h]
  by_cases g : sel = 2
  · rw [if_pos g]; exact Ev.pos g (Ev.now _)
  rw [if_neg g]
  refine Ev.neg g ?_
  by_cases g1 : ps.length = 0
  · rw [if_pos g1]; exact Ev.pos (by omega) (Ev.now _)
  rw [if_neg g1]
  refine Ev.neg (by omega) ?_
  obtain ⟨hs, hm, hn, hc⟩ := h
  obtain ⟨hp, hsel, _, hf⟩ := sideOk_facts hs
  have hE := ev_fold (F := fun k s i => spec_DownBound.l0 k l now count (dbSoFar sel s i) i ps sel win) (n := ps.length) (st := lmSt dnX ps l now count)
    (out := fun s => if sel = 0 then mn count s.1 else mn count s.2) (Inv := fun s i => LmInv s i ∧ (i = 0 → s = (1000, 0))) ?_ ?_ ps.length 0 (1000, 0) (by omega) ⟨⟨by simp, by simp, by simp, by simp⟩, fun _ => rfl⟩
  · have e : dbSoFar sel (1000, 0) ((0 : Nat) : Int) = -1 := by simp [dbSoFar]
    simp only [e] at hE
    exact hE
  · intro s _
    refine Ev.step (f := fun _ => some (if sel = 0 then mn count s.1 else mn count s.2)) (fun k => ?_) (Ev.now _)
    simp only [spec_DownBound.l0, dbSoFar, if_neg (show ¬ (ps.length : Int) = 0 by omega), if_neg (show ¬ (ps.length : Int) < (ps.length : Int) by omega)]
    unfold mn
    by_cases g2 : sel = 0
    · simp only [if_pos g2]
      by_cases g3 : s.1 < count
      · rw [if_pos g3, if_neg (by omega)]
      · rw [if_neg g3]; split; rfl; congr 1; omega
    · simp only [if_neg g2]
      by_cases g3 : s.2 < count
      · rw [if_pos g3, if_neg (by omega)]
      · rw [if_neg g3]; split; rfl; congr 1; omega
  · intro s i hi hI
    obtain ⟨_, hv, _⟩ := hf i hi
    have hb := baseOf_bounds l now count (rd_T96 ps i).f2 hc
    have hx := dnX_bounds (kind := (rd_T96 ps i).f0) hb hv
    refine ⟨⟨lmInv_step ps l now count hx hI.1, fun h => absurd h (Nat.succ_ne_zero i)⟩, fun r hr => ?_⟩
    obtain ⟨⟨i1, i2, i3, i4⟩, i5⟩ := hI
    have m1 : 0 ≤ mn (baseOf l now count (rd_T96 ps i).f2) 1000 ∧ mn (baseOf l now count (rd_T96 ps i).f2) 1000 ≤ 1000 := by unfold mn; split <;> omega
    refine Ev.step (f := fun k => (spec_l06Base.f k (rd_T96 ps i).f0 (rd_T96 ps i).f1 (rd_T96 ps i).f2 l now count).bind fun t => (if t > 1000 then (spec_DownBound.j1 k l now count (dbSoFar sel s i) i 1000 ps sel win (rd_T96 ps i).f0 (rd_T96 ps i).f1 (rd_T96 ps i).f2) else (spec_DownBound.j1 k l now count (dbSoFar sel s i) i t ps sel win (rd_T96 ps i).f0 (rd_T96 ps i).f1 (rd_T96 ps i).f2))) (fun k => by simp only [spec_DownBound.l0]; rw [if_pos (by omega), if_pos (by omega)]) ?_
    refine Ev.bind (base_spec l hl now count (rd_T96 ps i).f2 _ _ hc) ?_
    have key2 : ∀ x : Int, mx 0 x = dnX (baseOf l now count (rd_T96 ps i).f2) (rd_T96 ps i).f0 (rd_T96 ps i).f1 → Ev (fun k => spec_DownBound.j2 k l now count (dbSoFar sel s i) i x ps sel win) r := by
      intro x hxe
      refine Ev.step (fun k => ?_) hr
      rw [dnJ2, wr_succ hi (by omega), hxe]
      congr 1
      unfold dbSoFar lmSt
      simp only
      rw [if_neg (show ¬ ((i + 1 : Nat) : Int) = 0 by omega)]
      generalize dnX (baseOf l now count (rd_T96 ps i).f2) (rd_T96 ps i).f0 (rd_T96 ps i).f1 = y at *
      unfold mn mx
      by_cases j0 : (i : Int) = 0
      · obtain rfl := i5 (by omega)
        rw [if_pos j0, if_pos (by omega)]
        by_cases j1 : sel = 0
        · rw [if_pos j1]; split <;> omega
        · rw [if_neg j1]; split <;> omega
      · rw [if_neg j0]
        by_cases j1 : sel = 0
        · rw [if_pos j1, if_pos j1]; split <;> split <;> omega
        · rw [if_neg j1, if_neg j1]; split <;> split <;> omega
    have key : Ev (fun k => spec_DownBound.j1 k l now count (dbSoFar sel s i) i (mn (baseOf l now count (rd_T96 ps i).f2) 1000) ps sel win (rd_T96 ps i).f0 (rd_T96 ps i).f1 (rd_T96 ps i).f2) r := by
      have w1 : wrap64 (100 - (rd_T96 ps i).f1) = 100 - (rd_T96 ps i).f1 := wr_id (by omega) (by omega)
      by_cases j : (rd_T96 ps i).f0 = 1
      · by_cases j2 : 100 - (rd_T96 ps i).f1 < 0
        · refine Ev.step (f := fun k => spec_DownBound.j2 k l now count (dbSoFar sel s i) i 0 ps sel win) (fun k => ?_) (key2 0 ?_)
          · simp only [spec_DownBound.j1, w1]
            rw [if_pos j, if_pos j2, Int.mul_zero, wr_id (by omega) (by omega), floor_spec (by omega) (by omega)]; rfl
          · unfold dnX; rw [if_pos j, show mx 0 (100 - (rd_T96 ps i).f1) = 0 by unfold mx; rw [if_neg (by omega)], Int.mul_zero]; rfl
        · obtain ⟨p0, p1⟩ := mul_bounds m1.1 (show 0 ≤ 100 - (rd_T96 ps i).f1 by omega) m1.2 (show 100 - (rd_T96 ps i).f1 ≤ 100 by omega)
          refine Ev.step (f := fun k => spec_DownBound.j2 k l now count (dbSoFar sel s i) i ((mn (baseOf l now count (rd_T96 ps i).f2) 1000 * (100 - (rd_T96 ps i).f1)) / 100) ps sel win) (fun k => ?_) (key2 _ ?_)
          · simp only [spec_DownBound.j1, w1]
            rw [if_pos j, if_neg j2, wr_id (by omega) (by omega), floor_spec p0 (by omega)]; rfl
          · have e : mx 0 (100 - (rd_T96 ps i).f1) = 100 - (rd_T96 ps i).f1 := by unfold mx; split <;> omega
            unfold dnX; rw [if_pos j, e]
            generalize mn (baseOf l now count (rd_T96 ps i).f2) 1000 * (100 - (rd_T96 ps i).f1) = p at *
            unfold mx; split <;> omega
      · refine Ev.step (f := fun k => spec_DownBound.j2 k l now count (dbSoFar sel s i) i (mn (baseOf l now count (rd_T96 ps i).f2) 1000 - (rd_T96 ps i).f1) ps sel win) (fun k => ?_) (key2 _ ?_)
        · simp only [spec_DownBound.j1]
          rw [if_neg j, wr_id (by omega) (by omega)]
        · unfold dnX; rw [if_neg j]
    by_cases c : baseOf l now count (rd_T96 ps i).f2 > 1000
    · refine Ev.pos c ?_
      rw [show mn (baseOf l now count (rd_T96 ps i).f2) 1000 = 1000 by unfold mn; rw [if_pos (by omega)]] at key
      exact key
    · refine Ev.neg c ?_
      rw [show mn (baseOf l now count (rd_T96 ps i).f2) 1000 = baseOf l now count (rd_T96 ps i).f2 by unfold mn; rw [if_neg (by omega)]] at key
      exact key
end Go.Proofs.Ytfjjlipfjddaiaa.Base
