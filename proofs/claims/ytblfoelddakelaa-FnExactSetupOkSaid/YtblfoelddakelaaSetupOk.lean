/- SetupOk of the program and of the reference is one plain test.
   Conditions: none. -/
import Derived.Test.YtblfoelddakelaaU19
import Derived.Test.YtblfoelddakelaaU26
import Derived.Test.YtblfoelddakelaaU16
import Derived.Test.YtblfoelddakelaaU24
import Derived.Test.YtblfoelddakelaaU17
import Derived.Test.YtblfoelddakelaaU21
import Derived.Test.YtblfoelddakelaaU18
import Derived.Test.YtblfoelddakelaaU22
import Derived.Test.YtblfoelddakelaaU14
import Derived.Test.YtblfoelddakelaaU22
import Derived.Test.YtblfoelddakelaaSideOk
import Derived.Test.YtblfoelddakelaaBehaveOk
namespace Go.Proofs.Ytblfoelddakelaa.Base
open Go.RowKit Go.Proofs.YtblfoelddakelaaW.PrintWords Go.Proofs.YtblfoelddakelaaW.PrintMore Go.Proofs.YtblfoelddakelaaW.PrintLast Go.Proofs.Ytblfoelddakelaa.U

def nmP (t : ByteArray) (i : Nat) : Bool := (decide (97 ≤ bt t i) && decide (bt t i ≤ 122)) || (decide (48 ≤ bt t i) && decide (bt t i ≤ 57))
def nameOk (t : ByteArray) : Bool := (List.range' 0 t.size).all (nmP t) && decide (1 ≤ (t.size : Int) ∧ (t.size : Int) ≤ 12)
theorem nm_ite {α : Type} (b : Int) (x y : α) : (if b < 97 then (if b < 48 then y else if b > 57 then y else x) else if b > 122 then (if b < 48 then y else if b > 57 then y else x) else x) = if ((decide (97 ≤ b) && decide (b ≤ 122)) || (decide (48 ≤ b) && decide (b ≤ 57))) = true then x else y := by
  simp only [Bool.or_eq_true, Bool.and_eq_true, decide_eq_true_eq]
  by_cases h1 : b < 97
  · rw [if_pos h1]
    by_cases h2 : b < 48
    · rw [if_pos h2, if_neg (by omega)]
    · rw [if_neg h2]
      by_cases h3 : b > 57
      · rw [if_pos h3, if_neg (by omega)]
      · rw [if_neg h3, if_pos (by omega)]
  · rw [if_neg h1]
    by_cases h4 : b > 122
    · rw [if_pos h4, if_neg (show ¬ b < 48 by omega), if_pos (show b > 57 by omega), if_neg (by omega)]
    · rw [if_neg h4, if_pos (by omega)]
theorem wr_succ' {i n : Nat} (h : i < n) (hn : n ≤ 9223372036854775807) : wrap64 ((i : Int) + 1) = ((i + 1 : Nat) : Int) := by
  unfold wrap64; omega
theorem nameOk_impl (t : ByteArray) (ht : t.size ≤ 9223372036854775807) : Ev (fun k => impl_NameOk.f k t) (nameOk t) := by
  unfold impl_NameOk.f nameOk
  refine ev_all1 (F := fun k i => impl_NameOk.l0 k t (t.size : Int) i) (Ev.step (f := fun _ => some (decide (1 ≤ (t.size : Int) ∧ (t.size : Int) ≤ 12))) (fun k => ?_) (Ev.now _)) ?_
  · simp only [impl_NameOk.l0, in_impl, Option.bind_some]
    rw [if_neg (by omega)]
  · intro i k hi
    simp only [impl_NameOk.l0]
    rw [if_pos (by omega), if_pos (by omega), if_pos (by omega), wr_succ' hi ht, nm_ite]
    rfl
theorem nameOk_spec (t : ByteArray) (ht : t.size ≤ 9223372036854775807) : Ev (fun k => spec_NameOk.f k t) (nameOk t) := by
  unfold spec_NameOk.f nameOk
  rw [in_spec]
  refine Ev.bind0 rfl ?_
  by_cases h : 1 ≤ (t.size : Int) ∧ (t.size : Int) ≤ 12
  · rw [decide_eq_true h]
    refine Ev.pos rfl ?_
    refine ev_all1 (F := fun k i => spec_NameOk.l0 k t i) (Ev.step (f := fun _ => some true) (fun k => by simp only [spec_NameOk.l0]; rw [if_neg (by omega)]) (Ev.now true)) ?_
    intro i k hi
    simp only [spec_NameOk.l0]
    rw [if_pos (by omega), if_pos (by omega), wr_succ' hi ht, nm_ite]
    rfl
  · rw [decide_eq_false h, Bool.and_false]
    exact Ev.neg (by decide) (Ev.now _)

def goalOk (g : S49) : Bool := nameOk g.f0 && (decide (1 ≤ g.f1 ∧ g.f1 ≤ 1000000) && decide (0 ≤ g.f2 ∧ g.f2 ≤ 1000))
theorem goalOk_impl (g : S49) (hg : g.f0.size ≤ 9223372036854775807) : Ev (fun k => impl_GoalOk.f k g.f0 g.f1 g.f2) (goalOk g) := by
  unfold impl_GoalOk.f goalOk
  refine Ev.bind (nameOk_impl _ hg) ?_
  cases nameOk g.f0 with
  | false => exact Ev.neg (by decide) (Ev.now _)
  | true =>
    rw [in_impl, in_impl, Bool.true_and]
    refine Ev.pos rfl (Ev.bind0 rfl ?_)
    cases decide (1 ≤ g.f1 ∧ g.f1 ≤ 1000000) with
    | false => exact Ev.neg (by decide) (Ev.now _)
    | true => exact Ev.pos rfl (Ev.bind0 rfl (Ev.now _))
theorem goalOk_spec (g : S49) (hg : g.f0.size ≤ 9223372036854775807) : Ev (fun k => spec_GoalOk.f k g.f0 g.f1 g.f2) (goalOk g) := by
  unfold spec_GoalOk.f goalOk
  refine Ev.bind (nameOk_spec _ hg) ?_
  cases nameOk g.f0 with
  | false => exact Ev.neg (by decide) (Ev.now _)
  | true =>
    rw [in_spec, in_spec, Bool.true_and]
    refine Ev.pos rfl (Ev.bind0 rfl ?_)
    cases decide (1 ≤ g.f1 ∧ g.f1 ≤ 1000000) with
    | false => exact Ev.neg (by decide) (Ev.now _)
    | true => exact Ev.pos rfl (Ev.bind0 rfl (Ev.now _))

def rulesOk (d f w : Int) : Bool := decide (0 ≤ d ∧ d ≤ 1000) && (decide (0 ≤ f ∧ f ≤ 1000) && decide (0 ≤ w ∧ w ≤ 1000))
theorem rulesOk_impl (d f w : Int) : impl_RulesOk.f d f w = some (rulesOk d f w) := by
  unfold impl_RulesOk.f rulesOk
  rw [in_impl, in_impl, in_impl, Option.bind_some, Option.bind_some, Option.bind_some]
  cases decide (0 ≤ d ∧ d ≤ 1000) <;> cases decide (0 ≤ f ∧ f ≤ 1000) <;> rfl
theorem rulesOk_spec (d f w : Int) : spec_RulesOk.f d f w = some (rulesOk d f w) := by
  unfold spec_RulesOk.f rulesOk
  rw [in_spec, in_spec, in_spec, Option.bind_some, Option.bind_some, Option.bind_some]
  cases decide (0 ≤ d ∧ d ≤ 1000) <;> cases decide (0 ≤ f ∧ f ≤ 1000) <;> rfl

/-- The goal at i is well, and no goal ahead of it has its metric. -/
def glQ (l : List S49) (i k : Nat) : Bool := !((rd_T49 l k).f0.toList == (rd_T49 l i).f0.toList)
def glP (l : List S49) (i : Nat) : Bool := goalOk (rd_T49 l i) && (List.range' 0 i).all (glQ l i)
def setupOk (d f w : Int) (l : List S49) (ul : List S71) (us uw : Int) (dl : List S71) (ds dw m n : Int) : Bool :=
  (List.range' 0 l.length).all (glP l) && (rulesOk d f w && (behaveOk ul us uw dl ds dw m n && decide (1 ≤ (l.length : Int) ∧ (l.length : Int) ≤ 3)))

theorem take_any (l : List S49) (p : S49 → Bool) : ∀ i : Nat, i ≤ l.length → (l.take i).any p = !((List.range' 0 i).all fun k => !(p (rd_T49 l k))) := by
  intro i
  induction i with
  | zero => intro _; rfl
  | succ i ih =>
    intro hi
    have e : l.take (i + 1) = l.take i ++ [rd_T49 l i] := by
      rw [List.take_add_one]
      simp [rd_T49, List.getD_eq_getElem?_getD, List.getElem?_eq_getElem (show i < l.length by omega)]
    rw [e, List.any_append, ih (by omega), List.range'_concat, List.all_append]
    simp [Bool.not_and]

theorem setupOk_impl (d f w : Int) (l : List S49) (hl : l.length ≤ 1048576) (hs : ∀ x ∈ l, x.f0.size ≤ 9223372036854775807) (ul : List S71) (hu : ul.length ≤ 1048576) (us uw : Int) (dl : List S71) (hd : dl.length ≤ 1048576) (ds dw m n : Int) :
    Ev (fun k => impl_SetupOk.f k d f w l ul us uw dl ds dw m n) (setupOk d f w l ul us uw dl ds dw m n) := by
  unfold impl_SetupOk.f setupOk
  refine ev_all (F := fun k i => impl_SetupOk.l0 k l (l.length : Int) i d f w l ul us uw dl ds dw m n) (n := l.length) (p := glP l) (q := rulesOk d f w && (behaveOk ul us uw dl ds dw m n && decide (1 ≤ (l.length : Int) ∧ (l.length : Int) ≤ 3))) ?_ ?_ ?_ l.length 0 (by omega)
  · refine Ev.step (fun k => rfl) (Ev.neg (by omega) ?_)
    rw [rulesOk_impl, in_impl]
    refine Ev.bind0 rfl ?_
    cases rulesOk d f w with
    | false => exact Ev.neg (by decide) (Ev.now _)
    | true =>
      refine Ev.pos rfl (Ev.bind (behaveOk_impl ul hu us uw dl hd ds dw m n) ?_)
      cases behaveOk ul us uw dl ds dw m n with
      | false => exact Ev.neg (by decide) (Ev.now _)
      | true => exact Ev.pos rfl (Ev.bind0 rfl (Ev.now _))
  · intro i hi hp
    have hm : (rd_T49 l i).f0.size ≤ 9223372036854775807 := hs _ (rd_mem_T49 l i hi)
    refine Ev.step (fun k => rfl) (Ev.pos (by omega) (Ev.pos (by omega) (Ev.pos (by omega) (Ev.bind (goalOk_impl _ hm) ?_))))
    unfold glP at hp
    cases hg : goalOk (rd_T49 l i) with
    | false => exact Ev.neg (by decide) (Ev.now _)
    | true =>
      rw [hg, Bool.true_and] at hp
      refine Ev.pos rfl (Ev.pos (by omega) (Ev.bind0 (show impl_hasMetric.f (l.take ((i : Int)).toNat) _ _ _ = some true from ?_) (Ev.pos rfl (Ev.now _))))
      unfold impl_hasMetric.f
      rw [Int.toNat_natCast, take_any l _ i (by omega)]
      have : (List.range' 0 i).all (fun k => !((rd_T49 l k).f0.toList == (rd_T49 l i).f0.toList)) = false := hp
      rw [this]; rfl
  · intro i r hi hp h
    have hm : (rd_T49 l i).f0.size ≤ 9223372036854775807 := hs _ (rd_mem_T49 l i hi)
    refine Ev.step (fun k => rfl) (Ev.pos (by omega) (Ev.pos (by omega) (Ev.pos (by omega) (Ev.bind (goalOk_impl _ hm) ?_))))
    unfold glP at hp
    rw [Bool.and_eq_true] at hp
    rw [hp.1]
    refine Ev.pos rfl (Ev.pos (by omega) (Ev.bind0 (show impl_hasMetric.f (l.take ((i : Int)).toNat) _ _ _ = some false from ?_) (Ev.neg (by decide) ?_)))
    · unfold impl_hasMetric.f
      rw [Int.toNat_natCast, take_any l _ i (by omega)]
      have : (List.range' 0 i).all (fun k => !((rd_T49 l k).f0.toList == (rd_T49 l i).f0.toList)) = true := hp.2
      rw [this]; rfl
    · rw [wr_succ hi (by omega)]
      exact h

theorem setup_loop (d f w : Int) (l : List S49) (hl : l.length ≤ 1048576) (hs : ∀ x ∈ l, x.f0.size ≤ 9223372036854775807) (ul : List S71) (us uw : Int) (dl : List S71) (ds dw m n : Int) :
    ∀ D i : Nat, i + D = l.length → Ev (fun k => spec_SetupOk.l0 k (i : Int) d f w l ul us uw dl ds dw m n) ((List.range' i D).all (glP l)) := by
  intro D
  induction D with
  | zero => intro i hi; exact Ev.step (fun k => rfl) (Ev.neg (by omega) (Ev.now _))
  | succ D ih =>
    intro i hi
    have hil : i < l.length := by omega
    have hm : (rd_T49 l i).f0.size ≤ 9223372036854775807 := hs _ (rd_mem_T49 l i hil)
    have h := ih (i + 1) (by omega)
    rw [List.range'_succ, List.all_cons]
    refine Ev.step (fun k => rfl) (Ev.pos (by omega) (Ev.pos (by omega) (Ev.bind (goalOk_spec _ hm) ?_)))
    unfold glP
    cases hg : goalOk (rd_T49 l i) with
    | false => exact Ev.neg (by decide) (Ev.now _)
    | true =>
      rw [Bool.true_and]
      refine Ev.pos rfl ?_
      refine ev_all (F := fun k j => spec_SetupOk.l1 k (i : Int) j d f w l ul us uw dl ds dw m n) (n := i) (p := glQ l i) ?_ ?_ ?_ i 0 (by omega)
      · refine Ev.step (fun k => rfl) (Ev.neg (by omega) ?_)
        rw [wr_succ hil (by omega)]
        exact h
      · intro j hj hq
        unfold glQ at hq
        refine Ev.step (fun k => rfl) (Ev.pos (by omega) (Ev.pos (by omega) (Ev.pos (by omega) (Ev.pos (by omega) (Ev.pos (by omega) (Ev.pos ?_ (Ev.now _)))))))
        simpa using hq
      · intro j r hj hq h'
        unfold glQ at hq
        refine Ev.step (fun k => rfl) (Ev.pos (by omega) (Ev.pos (by omega) (Ev.pos (by omega) (Ev.pos (by omega) (Ev.pos (by omega) (Ev.neg ?_ ?_))))))
        · simpa using hq
        · rw [wr_succ (show j < l.length by omega) (by omega)]
          exact h'
theorem setupOk_spec (d f w : Int) (l : List S49) (hl : l.length ≤ 1048576) (hs : ∀ x ∈ l, x.f0.size ≤ 9223372036854775807) (ul : List S71) (us uw : Int) (dl : List S71) (ds dw m n : Int) :
    Ev (fun k => spec_SetupOk.f k d f w l ul us uw dl ds dw m n) (setupOk d f w l ul us uw dl ds dw m n) := by
  unfold spec_SetupOk.f setupOk
  rw [rulesOk_spec, in_spec]
  refine Ev.bind0 rfl ?_
  cases rulesOk d f w with
  | false =>
    rw [Bool.false_and, Bool.and_false]
    exact Ev.neg (by decide) (Ev.step (f := fun _ => some false) (fun k => by simp [spec_SetupOk.j0]) (Ev.now _))
  | true =>
    refine Ev.pos rfl (Ev.bind (behaveOk_spec ul us uw dl ds dw m n) ?_)
    cases behaveOk ul us uw dl ds dw m n with
    | false =>
      rw [Bool.false_and, Bool.and_false, Bool.and_false]
      exact Ev.neg (by decide) (Ev.step (f := fun _ => some false) (fun k => by simp [spec_SetupOk.j0]) (Ev.now _))
    | true =>
      refine Ev.pos rfl (Ev.bind0 rfl ?_)
      cases decide (1 ≤ (l.length : Int) ∧ (l.length : Int) ≤ 3) with
      | false =>
        rw [Bool.true_and, Bool.true_and, Bool.and_false]
        exact Ev.step (f := fun _ => some false) (fun k => by simp [spec_SetupOk.j0]) (Ev.now _)
      | true =>
        rw [Bool.true_and, Bool.true_and, Bool.and_true]
        exact Ev.step (f := fun k => spec_SetupOk.l0 k 0 d f w l ul us uw dl ds dw m n) (fun k => by simp [spec_SetupOk.j0]) (setup_loop d f w l hl hs ul us uw dl ds dw m n l.length 0 (by omega))
end Go.Proofs.Ytblfoelddakelaa.Base
