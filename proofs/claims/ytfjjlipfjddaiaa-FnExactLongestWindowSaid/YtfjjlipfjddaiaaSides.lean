/- SideOk and BehaveOk of the program and of the reference are one plain test each.
   Conditions: none. -/
import Derived.Test.YtfjjlipfjddaiaaU24
import Derived.Test.YtfjjlipfjddaiaaU25
import Derived.Test.YtfjjlipfjddaiaaU27
import Derived.Test.YtfjjlipfjddaiaaU28
import Derived.Test.YtfjjlipfjddaiaaTests
namespace Go.Proofs.Ytfjjlipfjddaiaa.Base
open Go.RowKit Go.Proofs.YtfjjlipfjddaiaaW.PrintWords Go.Proofs.YtfjjlipfjddaiaaW.PrintMore Go.Proofs.Ytfjjlipfjddaiaa.U
def sdP (l : List S96) (i : Nat) : Bool := decide (0 ≤ (rd_T96 l i).f0 ∧ (rd_T96 l i).f0 ≤ 1) && (decide (1 ≤ (rd_T96 l i).f1 ∧ (rd_T96 l i).f1 ≤ 1000) && decide (1 ≤ (rd_T96 l i).f2 ∧ (rd_T96 l i).f2 ≤ 1000))
def sideOk (l : List S96) (sel win : Int) : Bool := (List.range' 0 l.length).all (sdP l) && (decide (l.length ≤ 3) && (decide (0 ≤ sel ∧ sel ≤ 2) && decide (0 ≤ win ∧ win ≤ 1000)))
def behaveOk (ul : List S96) (us uw : Int) (dl : List S96) (ds dw : Int) (mn_ mx_ : Int) : Bool := sideOk ul us uw && (sideOk dl ds dw && decide (0 ≤ mn_ ∧ mn_ ≤ mx_ ∧ mx_ ≤ 1000))
theorem and3_ite {α : Type} (a b c : Bool) (x y : α) : (if (a && (b && c)) = true then x else y) = if a = true then (if b = true then (if c = true then x else y) else y) else y := by
  cases a <;> cases b <;> cases c <;> rfl
theorem sideOk_spec (l : List S96) (sel win : Int) : Ev (fun k => spec_SideOk.f k l sel win) (sideOk l sel win) := by
  unfold spec_SideOk.f sideOk
  by_cases h : (l.length : Int) > 3
  · rw [decide_eq_false (show ¬ l.length ≤ 3 by omega), Bool.false_and, Bool.and_false]
    exact Ev.pos h (Ev.step (f := fun _ => some false) (fun k => by simp [spec_SideOk.j0]) (Ev.now false))
  · rw [decide_eq_true (show l.length ≤ 3 by omega), Bool.true_and]
    refine Ev.neg h ?_
    rw [in_spec, in_spec]
    refine Ev.bind0 rfl ?_
    by_cases h1 : 0 ≤ sel ∧ sel ≤ 2
    · rw [decide_eq_true h1, Bool.true_and]
      refine Ev.pos rfl (Ev.bind0 rfl ?_)
      by_cases h2 : 0 ≤ win ∧ win ≤ 1000
      · rw [decide_eq_true h2]
        refine Ev.step (f := fun k => spec_SideOk.l0 k 0 l sel win) (fun k => by simp [spec_SideOk.j0]) ?_
        refine ev_all1 (F := fun k i => spec_SideOk.l0 k i l sel win) (Ev.step (f := fun _ => some true) (fun k => by simp only [spec_SideOk.l0]; rw [if_neg (by omega)]) (Ev.now true)) ?_
        intro i k hi
        simp only [spec_SideOk.l0, in_spec, Option.bind_some]
        rw [if_pos (by omega), if_pos (by omega), wr_succ hi (by omega)]
        unfold sdP
        rw [and3_ite]
      · rw [decide_eq_false h2, Bool.and_false]
        exact Ev.step (f := fun _ => some false) (fun k => by simp [spec_SideOk.j0]) (Ev.now false)
    · rw [decide_eq_false h1, Bool.false_and, Bool.and_false]
      refine Ev.neg (by decide) ?_
      exact Ev.step (f := fun _ => some false) (fun k => by simp [spec_SideOk.j0]) (Ev.now false)
theorem sideOk_impl (l : List S96) (hl : l.length ≤ 1048576) (sel win : Int) : Ev (fun k => impl_SideOk.f k l sel win) (sideOk l sel win) := by
  unfold impl_SideOk.f sideOk
  refine ev_all1 (F := fun k i => impl_SideOk.l0 k l (l.length : Int) i l sel win) (Ev.step (f := fun _ => some (decide (l.length ≤ 3) && (decide (0 ≤ sel ∧ sel ≤ 2) && decide (0 ≤ win ∧ win ≤ 1000)))) (fun k => ?_) (Ev.now _)) ?_
  · simp only [impl_SideOk.l0, in_impl, Option.bind_some]
    rw [if_neg (by omega)]
    by_cases h : l.length ≤ 3
    · rw [if_pos (show (l.length : Int) ≤ 3 by omega), decide_eq_true h, Bool.true_and]
      by_cases h1 : 0 ≤ sel ∧ sel ≤ 2
      · rw [decide_eq_true h1, if_pos rfl, Bool.true_and]
      · rw [decide_eq_false h1, if_neg (by decide), Bool.false_and]
    · rw [if_neg (show ¬ (l.length : Int) ≤ 3 by omega), decide_eq_false h, Bool.false_and]
  · intro i k hi
    simp only [impl_SideOk.l0, in_impl, Option.bind_some]
    rw [if_pos (by omega), if_pos (by omega), if_pos (by omega), wr_succ hi (by omega)]
    unfold sdP
    rw [and3_ite]
theorem sideOk_facts {l : List S96} {sel win : Int} (h : sideOk l sel win = true) : l.length ≤ 3 ∧ (0 ≤ sel ∧ sel ≤ 2) ∧ (0 ≤ win ∧ win ≤ 1000) ∧ ∀ i : Nat, i < l.length → (0 ≤ (rd_T96 l i).f0 ∧ (rd_T96 l i).f0 ≤ 1) ∧ (1 ≤ (rd_T96 l i).f1 ∧ (rd_T96 l i).f1 ≤ 1000) ∧ (1 ≤ (rd_T96 l i).f2 ∧ (rd_T96 l i).f2 ≤ 1000) := by
  unfold sideOk at h
  rw [Bool.and_eq_true, Bool.and_eq_true, Bool.and_eq_true, List.all_eq_true] at h
  refine ⟨of_decide_eq_true h.2.1, of_decide_eq_true h.2.2.1, of_decide_eq_true h.2.2.2, fun i hi => ?_⟩
  have := h.1 i (by rw [List.mem_range'_1]; omega)
  unfold sdP at this
  rw [Bool.and_eq_true, Bool.and_eq_true] at this
  exact ⟨of_decide_eq_true this.1, of_decide_eq_true this.2.1, of_decide_eq_true this.2.2⟩
theorem behaveOk_spec (ul : List S96) (us uw : Int) (dl : List S96) (ds dw : Int) (m n : Int) : Ev (fun k => spec_BehaveOk.f k ul us uw dl ds dw m n) (behaveOk ul us uw dl ds dw m n) := by
  unfold spec_BehaveOk.f behaveOk
  refine Ev.bind (sideOk_spec ul us uw) ?_
  cases sideOk ul us uw with
  | false => exact Ev.neg (by decide) (Ev.now _)
  | true =>
    refine Ev.pos rfl (Ev.bind (sideOk_spec dl ds dw) ?_)
    cases sideOk dl ds dw with
    | false => exact Ev.neg (by decide) (Ev.now _)
    | true =>
      refine Ev.pos rfl ?_
      rw [in_spec, in_spec]
      refine Ev.bind0 rfl ?_
      by_cases h : 0 ≤ n ∧ n ≤ 1000
      · refine Ev.pos (decide_eq_true h) ?_
        have e : (decide (0 ≤ m ∧ m ≤ n)) = (true && (true && decide (0 ≤ m ∧ m ≤ n ∧ n ≤ 1000))) := by rw [Bool.true_and, Bool.true_and]; exact decide_eq_decide.2 (by omega)
        rw [← e]
        exact Ev.now _
      · rw [decide_eq_false (show ¬ (0 ≤ m ∧ m ≤ n ∧ n ≤ 1000) by omega)]
        exact Ev.neg (by simpa using h) (Ev.now _)
theorem behaveOk_impl (ul : List S96) (hu : ul.length ≤ 1048576) (us uw : Int) (dl : List S96) (hd : dl.length ≤ 1048576) (ds dw : Int) (m n : Int) : Ev (fun k => impl_BehaveOk.f k ul us uw dl ds dw m n) (behaveOk ul us uw dl ds dw m n) := by
  unfold impl_BehaveOk.f behaveOk
  refine Ev.bind (sideOk_impl ul hu us uw) ?_
  cases sideOk ul us uw with
  | false => exact Ev.neg (by decide) (Ev.now _)
  | true =>
    refine Ev.pos rfl (Ev.bind (sideOk_impl dl hd ds dw) ?_)
    cases sideOk dl ds dw with
    | false => exact Ev.neg (by decide) (Ev.now _)
    | true =>
      refine Ev.pos rfl ?_
      by_cases h : m ≥ 0
      · refine Ev.pos h ?_
        by_cases h1 : m ≤ n
        · refine Ev.pos h1 ?_
          have e : (decide (n ≤ 1000)) = (true && (true && decide (0 ≤ m ∧ m ≤ n ∧ n ≤ 1000))) := by rw [Bool.true_and, Bool.true_and]; exact decide_eq_decide.2 (by omega)
          rw [← e]
          exact Ev.now _
        · rw [decide_eq_false (show ¬ (0 ≤ m ∧ m ≤ n ∧ n ≤ 1000) by omega)]
          exact Ev.neg h1 (Ev.now _)
      · rw [decide_eq_false (show ¬ (0 ≤ m ∧ m ≤ n ∧ n ≤ 1000) by omega)]
        exact Ev.neg h (Ev.now _)
theorem behaveOk_facts {ul : List S96} {us uw : Int} {dl : List S96} {ds dw m n : Int} (h : behaveOk ul us uw dl ds dw m n = true) : sideOk ul us uw = true ∧ sideOk dl ds dw = true ∧ 0 ≤ m ∧ m ≤ n ∧ n ≤ 1000 := by
  unfold behaveOk at h
  rw [Bool.and_eq_true, Bool.and_eq_true] at h
  exact ⟨h.1, h.2.1, of_decide_eq_true h.2.2⟩
end Go.Proofs.Ytfjjlipfjddaiaa.Base
