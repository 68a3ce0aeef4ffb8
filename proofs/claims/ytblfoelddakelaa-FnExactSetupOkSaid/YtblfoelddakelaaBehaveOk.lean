/- BehaveOk of the program and of the reference is one plain test.
   Conditions: none. -/
import Derived.Test.YtblfoelddakelaaU16
import Derived.Test.YtblfoelddakelaaU24
import Derived.Test.YtblfoelddakelaaSideOk
namespace Go.Proofs.Ytblfoelddakelaa.Base
open Go.RowKit Go.Proofs.YtblfoelddakelaaW.PrintWords Go.Proofs.YtblfoelddakelaaW.PrintMore Go.Proofs.Ytblfoelddakelaa.U
def behaveOk (ul : List S71) (us uw : Int) (dl : List S71) (ds dw : Int) (mn_ mx_ : Int) : Bool := sideOk ul us uw && (sideOk dl ds dw && decide (0 ≤ mn_ ∧ mn_ ≤ mx_ ∧ mx_ ≤ 1000))
theorem behaveOk_spec (ul : List S71) (us uw : Int) (dl : List S71) (ds dw : Int) (m n : Int) : Ev (fun k => spec_BehaveOk.f k ul us uw dl ds dw m n) (behaveOk ul us uw dl ds dw m n) := by
  unfold spec_BehaveOk.f behaveOk
  refine Ev.bind (sideOk_spec ul us uw) ?_
  cases sideOk ul us uw with
  | false => exact Ev.neg (by decide) (Ev.now _)
  | true =>
    refine Ev.pos rfl (Ev.bind (sideOk_spec dl ds dw) ?_)
    cases sideOk dl ds dw with
    | false => exact Ev.neg (by decide) (Ev.now _)
    | true =>
      refine Ev.pos rfl ?_
      rw [in_spec, in_spec]
      refine Ev.bind0 rfl ?_
      by_cases h : 0 ≤ n ∧ n ≤ 1000
      · refine Ev.pos (decide_eq_true h) ?_
        have e : (decide (0 ≤ m ∧ m ≤ n)) = (true && (true && decide (0 ≤ m ∧ m ≤ n ∧ n ≤ 1000))) := by rw [Bool.true_and, Bool.true_and]; exact decide_eq_decide.2 (by omega)
        rw [← e]
        exact Ev.now _
      · rw [decide_eq_false (show ¬ (0 ≤ m ∧ m ≤ n ∧ n ≤ 1000) by omega)]
        exact Ev.neg (by simpa using h) (Ev.now _)
theorem behaveOk_impl (ul : List S71) (hu : ul.length ≤ 1048576) (us uw : Int) (dl : List S71) (hd : dl.length ≤ 1048576) (ds dw : Int) (m n : Int) : Ev (fun k => impl_BehaveOk.f k ul us uw dl ds dw m n) (behaveOk ul us uw dl ds dw m n) := by
  unfold impl_BehaveOk.f behaveOk
  refine Ev.bind (sideOk_impl ul hu us uw) ?_
  cases sideOk ul us uw with
  | false => exact Ev.neg (by decide) (Ev.now _)
  | true =>
    refine Ev.pos rfl (Ev.bind (sideOk_impl dl hd ds dw) ?_)
    cases sideOk dl ds dw with
    | false => exact Ev.neg (by decide) (Ev.now _)
    | true =>
      refine Ev.pos rfl ?_
      by_cases h : m ≥ 0
      · refine Ev.pos h ?_
        by_cases h1 : m ≤ n
        · refine Ev.pos h1 ?_
          have e : (decide (n ≤ 1000)) = (true && (true && decide (0 ≤ m ∧ m ≤ n ∧ n ≤ 1000))) := by rw [Bool.true_and, Bool.true_and]; exact decide_eq_decide.2 (by omega)
          rw [← e]
          exact Ev.now _
        · rw [decide_eq_false (show ¬ (0 ≤ m ∧ m ≤ n ∧ n ≤ 1000) by omega)]
          exact Ev.neg h1 (Ev.now _)
      · rw [decide_eq_false (show ¬ (0 ≤ m ∧ m ≤ n ∧ n ≤ 1000) by omega)]
        exact Ev.neg h (Ev.now _)
theorem behaveOk_facts {ul : List S71} {us uw : Int} {dl : List S71} {ds dw m n : Int} (h : behaveOk ul us uw dl ds dw m n = true) : sideOk ul us uw = true ∧ sideOk dl ds dw = true ∧ 0 ≤ m ∧ m ≤ n ∧ n ≤ 1000 := by
  unfold behaveOk at h
  rw [Bool.and_eq_true, Bool.and_eq_true] at h
  exact ⟨h.1, h.2.1, of_decide_eq_true h.2.2⟩
end Go.Proofs.Ytblfoelddakelaa.Base
