/- For every code the law of Steady answers true.
   Conditions: none. -/
import Derived.Test.YtfjjlipfjddaiaaVMore
import Derived.Test.YtfjjlipfjddaiaaSt14
import Derived.Test.YtfjjlipfjddaiaaSt12
import Derived.Test.YtfjjlipfjddaiaaSt7
import Derived.Test.YtfjjlipfjddaiaaSt9
import Derived.Test.YtfjjlipfjddaiaaSt13
import Derived.Test.YtfjjlipfjddaiaaSt8
import Derived.Test.YtfjjlipfjddaiaaSt15
import Derived.Test.YtfjjlipfjddaiaaSt10
import Derived.Test.YtfjjlipfjddaiaaSt16
import Derived.Test.YtfjjlipfjddaiaaSt11
import Derived.Test.YtfjjlipfjddaiaaSt2
import Derived.Test.YtfjjlipfjddaiaaSt1
import Derived.Test.YtfjjlipfjddaiaaSt4
import Derived.Test.YtfjjlipfjddaiaaSt3
import Derived.Test.YtfjjlipfjddaiaaSt5
import Derived.Test.YtfjjlipfjddaiaaSt6
import Derived.Laws.BitsLemmas
import Derived.Test.YtfjjlipfjddaiaaSt17
/- Plain facts: loops of the printed functions, from some number of rounds on.
   Conditions: none. -/
namespace Go.Proofs.Ytfjjlipfjddaiaa.Base
open Go.RowKit Go.Proofs.YtfjjlipfjddaiaaW.PrintWords Go.Proofs.YtfjjlipfjddaiaaW.PrintMore

theorem wr_succ {i n : Nat} (h : i < n) (hn : n ≤ 4611686018427387904) : wrap64 ((i : Int) + 1) = ((i + 1 : Nat) : Int) := by
  unfold wrap64; omega
theorem wr_pred {i : Nat} (h : 0 < i) (hn : i ≤ 4611686018427387904) : wrap64 ((i : Int) - 1) = ((i - 1 : Nat) : Int) := by
  unfold wrap64; omega
theorem wr_id {x : Int} (h : -9223372036854775808 ≤ x) (h' : x ≤ 9223372036854775807) : wrap64 x = x := by
  unfold wrap64; omega

theorem Ev.pos {α : Type} {c : Prop} [Decidable c] {f g : Nat → Option α} {r : α} (hc : c) (h : Ev f r) : Ev (fun k => if c then f k else g k) r := by
  obtain ⟨K, h⟩ := h
  exact ⟨K, fun k hk => (if_pos hc).trans (h k hk)⟩
theorem Ev.neg {α : Type} {c : Prop} [Decidable c] {f g : Nat → Option α} {r : α} (hc : ¬ c) (h : Ev g r) : Ev (fun k => if c then f k else g k) r := by
  obtain ⟨K, h⟩ := h
  exact ⟨K, fun k hk => (if_neg hc).trans (h k hk)⟩
/-- A bind of what needs no rounds. -/
theorem Ev.bind0 {α β : Type} {o : Option α} {a : α} {f : Nat → α → Option β} {r : β} (h : o = some a) (k : Ev (fun n => f n a) r) : Ev (fun n => o.bind (f n)) r := by
  subst h; exact k
theorem Ev.unique {α : Type} {g : Nat → Option α} {r q : α} (h : Ev g r) (h' : Ev g q) : r = q := by
  obtain ⟨K, h⟩ := h
  obtain ⟨K', h'⟩ := h'
  have a := h (max K K') (Nat.le_max_left _ _)
  rw [h' (max K K') (Nat.le_max_right _ _)] at a
  exact (Option.some.inj a).symm

/-- A loop over 0 .. n-1 with a state. -/
theorem ev_fold {σ ρ : Type} {F : Nat → σ → Int → Option ρ} {n : Nat} {st : σ → Nat → σ} {out : σ → ρ} {Inv : σ → Nat → Prop}
    (hend : ∀ s, Inv s n → Ev (fun k => F k s (n : Int)) (out s))
    (hstep : ∀ s i, i < n → Inv s i → Inv (st s i) (i + 1) ∧ ∀ r, Ev (fun k => F k (st s i) ((i + 1 : Nat) : Int)) r → Ev (fun k => F k s (i : Int)) r) :
    ∀ d i s, i + d = n → Inv s i → Ev (fun k => F k s (i : Int)) (out ((List.range' i d).foldl st s)) := by
  intro d
  induction d with
  | zero =>
    intro i s hi hI
    obtain rfl : i = n := by omega
    simpa using hend s hI
  | succ d ih =>
    intro i s hi hI
    obtain ⟨hI', hs⟩ := hstep s i (by omega) hI
    rw [List.range'_succ, List.foldl_cons]
    exact hs _ (ih (i + 1) (st s i) (by omega) hI')

theorem fold_inv {σ : Type} {n : Nat} {st : σ → Nat → σ} {Inv : σ → Nat → Prop} (hstep : ∀ s i, i < n → Inv s i → Inv (st s i) (i + 1)) :
    ∀ d i s, i + d = n → Inv s i → Inv ((List.range' i d).foldl st s) n := by
  intro d
  induction d with
  | zero => intro i s hi h; obtain rfl : i = n := by omega
            simpa using h
  | succ d ih => intro i s hi h; rw [List.range'_succ, List.foldl_cons]; exact ih (i + 1) _ (by omega) (hstep s i (by omega) h)

/-- A loop over 0 .. n-1 that ends at the first i where p does not hold. -/
theorem ev_all {F : Nat → Int → Option Bool} {n : Nat} {p : Nat → Bool} {q : Bool}
    (hend : Ev (fun k => F k (n : Int)) q)
    (hno : ∀ i, i < n → p i = false → Ev (fun k => F k (i : Int)) false)
    (hstep : ∀ i r, i < n → p i = true → Ev (fun k => F k ((i + 1 : Nat) : Int)) r → Ev (fun k => F k (i : Int)) r) :
    ∀ d i, i + d = n → Ev (fun k => F k (i : Int)) ((List.range' i d).all p && q) := by
  intro d
  induction d with
  | zero =>
    intro i hi
    obtain rfl : i = n := by omega
    simpa using hend
  | succ d ih =>
    intro i hi
    rw [List.range'_succ, List.all_cons]
    cases hp : p i with
    | false => simpa using hno i (by omega) hp
    | true =>
      rw [Bool.true_and]
      exact hstep i _ (by omega) hp (ih (i + 1) (by omega))

/-- The same where each round takes one. -/
theorem ev_all1 {F : Nat → Int → Option Bool} {n : Nat} {p : Nat → Bool} {q : Bool}
    (hend : Ev (fun k => F k (n : Int)) q)
    (hstep : ∀ i k, i < n → F (k + 1) (i : Int) = if p i = true then F k ((i + 1 : Nat) : Int) else some false) :
    Ev (fun k => F k 0) ((List.range' 0 n).all p && q) :=
  ev_all (F := F) (n := n) (p := p) (q := q) hend (fun i hi hp => Ev.step (f := fun _ => some false) (fun k => by rw [hstep i k hi, hp]; simp) (Ev.now false))
    (fun i r hi hp h => Ev.step (fun k => by rw [hstep i k hi, hp]; simp) h) n 0 (by omega)

/-- A loop that fills a list, one place a round. -/
theorem ev_fill {β : Type} {F : Nat → List β → Int → Option (List β)} {n : Nat} {g : Nat → β}
    (hend : ∀ s : List β, s.length = n → Ev (fun k => F k s (n : Int)) s)
    (hstep : ∀ (s : List β) (i : Nat) (r : List β), i < n → s.length = n → Ev (fun k => F k (s.set i (g i)) ((i + 1 : Nat) : Int)) r → Ev (fun k => F k s (i : Int)) r)
    (s : List β) (hs : s.length = n) : Ev (fun k => F k s 0) ((List.range n).map g) := by
  have h := ev_fold (F := F) (n := n) (st := fun s i => s.set i (g i)) (out := fun s => s) (Inv := fun s i => s.length = n ∧ ∀ j, j < i → s[j]? = some (g j)) (fun s hI => hend s hI.1)
    (fun s i hi hI => ⟨⟨by rw [List.length_set]; exact hI.1, fun j hj => by
      by_cases hji : j = i
      · subst hji; rw [List.getElem?_set_self (by omega)]
      · rw [List.getElem?_set_ne (by omega)]; exact hI.2 j (by omega)⟩, fun r h => hstep s i r hi hI.1 h⟩) n 0 s (by omega) ⟨hs, fun j hj => absurd hj (Nat.not_lt_zero _)⟩
  have e : (List.range' 0 n).foldl (fun s i => s.set i (g i)) s = (List.range n).map g := by
    have key : ∀ d i (s : List β), s.length = n → i + d = n → (∀ j, j < i → s[j]? = some (g j)) → ∀ j, j < n → ((List.range' i d).foldl (fun s i => s.set i (g i)) s)[j]? = some (g j) ∧ ((List.range' i d).foldl (fun s i => s.set i (g i)) s).length = n := by
      intro d
      induction d with
      | zero => intro i s hs hi hj j hjn; simpa using ⟨hj j (by omega), hs⟩
      | succ d ih =>
        intro i s hs hi hj j hjn
        rw [List.range'_succ, List.foldl_cons]
        refine ih (i + 1) _ (by rw [List.length_set]; exact hs) (by omega) (fun j hj' => ?_) j hjn
        by_cases hji : j = i
        · subst hji; rw [List.getElem?_set_self (by omega)]
        · rw [List.getElem?_set_ne (by omega)]; exact hj j (by omega)
    apply List.ext_getElem?
    intro j
    by_cases hj : j < n
    · rw [(key n 0 s hs (by omega) (fun j hj => absurd hj (Nat.not_lt_zero _)) j hj).1]
      simp [hj]
    · have hl : ((List.range' 0 n).foldl (fun s i => s.set i (g i)) s).length = n := by
        by_cases h0 : n = 0
        · subst h0; simpa using hs
        · exact (key n 0 s hs (by omega) (fun j hj => absurd hj (Nat.not_lt_zero _)) 0 (by omega)).2
      rw [List.getElem?_eq_none (by omega)]
      simp [hj]
  rw [e] at h
  exact h

theorem map_range_getD {α β : Type} (l : List α) (d : α) (f : α → β) : ((List.range l.length).map fun i => f (l.getD i d)) = l.map f := by
  apply List.ext_getElem?
  intro i
  by_cases hi : i < l.length
  · simp [hi, List.getD]
  · simp [hi]

theorem sz_len {n : Nat} (hn : n ≤ 9223372036854775807) {L : Int} (h0 : 0 ≤ L) (hL : L ≤ 1048576) : wrap64 (L - (n : Int)) = L - n := by
  unfold wrap64; omega
end Go.Proofs.Ytfjjlipfjddaiaa.Base
/- The tests of numbers: of the program and of the reference, one plain test each.
   Conditions: none. -/
namespace Go.Proofs.Ytfjjlipfjddaiaa.Base
open Go.RowKit Go.Proofs.YtfjjlipfjddaiaaW.PrintWords Go.Proofs.YtfjjlipfjddaiaaW.PrintMore Go.Proofs.Ytfjjlipfjddaiaa.St
theorem in_impl (a b c : Int) : impl_in.f a b c = some (decide (b ≤ a ∧ a ≤ c)) := by
  unfold impl_in.f
  by_cases h : a ≥ b
  · rw [if_pos h]; have h' : b ≤ a := h; simp [h']
  · rw [if_neg h]; have h' : ¬ b ≤ a := h; simp [h']
theorem in_spec (a b c : Int) : spec_l01In.f a b c = some (decide (b ≤ a ∧ a ≤ c)) := by
  unfold spec_l01In.f
  by_cases h : b ≤ a
  · rw [if_pos h]; simp [h]
  · rw [if_neg h]; simp [h]
theorem tick_impl (a : Int) : impl_isTick.f a = some (decide (0 ≤ a ∧ a ≤ 1000000000)) := by
  unfold impl_isTick.f; rw [in_impl]; rfl
theorem tick_spec (a : Int) : spec_l02Tick.f a = some (decide (0 ≤ a ∧ a ≤ 1000000000)) := by
  unfold spec_l02Tick.f; rw [in_spec]; rfl
theorem count_impl (a : Int) : impl_isCount.f a = some (decide (0 ≤ a ∧ a ≤ 1000)) := by
  unfold impl_isCount.f; rw [in_impl]; rfl
theorem count_spec (a : Int) : spec_l05Count.f a = some (decide (0 ≤ a ∧ a ≤ 1000)) := by
  unfold spec_l05Count.f; rw [in_spec]; rfl
end Go.Proofs.Ytfjjlipfjddaiaa.Base
/- SideOk and BehaveOk of the program and of the reference are one plain test each.
   Conditions: none. -/
namespace Go.Proofs.Ytfjjlipfjddaiaa.Base
open Go.RowKit Go.Proofs.YtfjjlipfjddaiaaW.PrintWords Go.Proofs.YtfjjlipfjddaiaaW.PrintMore Go.Proofs.Ytfjjlipfjddaiaa.St
def sdP (l : List S96) (i : Nat) : Bool := decide (0 ≤ (rd_T96 l i).f0 ∧ (rd_T96 l i).f0 ≤ 1) && (decide (1 ≤ (rd_T96 l i).f1 ∧ (rd_T96 l i).f1 ≤ 1000) && decide (1 ≤ (rd_T96 l i).f2 ∧ (rd_T96 l i).f2 ≤ 1000))
def sideOk (l : List S96) (sel win : Int) : Bool := (List.range' 0 l.length).all (sdP l) && (decide (l.length ≤ 3) && (decide (0 ≤ sel ∧ sel ≤ 2) && decide (0 ≤ win ∧ win ≤ 1000)))
def behaveOk (ul : List S96) (us uw : Int) (dl : List S96) (ds dw : Int) (mn_ mx_ : Int) : Bool := sideOk ul us uw && (sideOk dl ds dw && decide (0 ≤ mn_ ∧ mn_ ≤ mx_ ∧ mx_ ≤ 1000))
theorem and3_ite {α : Type} (a b c : Bool) (x y : α) : (if (a && (b && c)) = true then x else y) = if a = true then (if b = true then (if c = true then x else y) else y) else y := by
  cases a <;> cases b <;> cases c <;> rfl
theorem sideOk_spec (l : List S96) (sel win : Int) : Ev (fun k => spec_SideOk.f k l sel win) (sideOk l sel win) := by
  unfold spec_SideOk.f sideOk
  by_cases h : (l.length : Int) > 3
  · rw [decide_eq_false (show ¬ l.length ≤ 3 by omega), Bool.false_and, Bool.and_false]
    exact Ev.pos h (Ev.step (f := fun _ => some false) (fun k => by simp [spec_SideOk.j0]) (Ev.now false))
  · rw [decide_eq_true (show l.length ≤ 3 by omega), Bool.true_and]
    refine Ev.neg h ?_
    rw [in_spec, in_spec]
    refine Ev.bind0 rfl ?_
    by_cases h1 : 0 ≤ sel ∧ sel ≤ 2
    · rw [decide_eq_true h1, Bool.true_and]
      refine Ev.pos rfl (Ev.bind0 rfl ?_)
      by_cases h2 : 0 ≤ win ∧ win ≤ 1000
      · rw [decide_eq_true h2]
        refine Ev.step (f := fun k => spec_SideOk.l0 k 0 l sel win) (fun k => by simp [spec_SideOk.j0]) ?_
        refine ev_all1 (F := fun k i => spec_SideOk.l0 k i l sel win) (Ev.step (f := fun _ => some true) (fun k => by simp only [spec_SideOk.l0]; rw [if_neg (by omega)]) (Ev.now true)) ?_
        intro i k hi
        simp only [spec_SideOk.l0, in_spec, Option.bind_some]
        rw [if_pos (by omega), if_pos (by omega), wr_succ hi (by omega)]
        unfold sdP
        rw [and3_ite]
      · rw [decide_eq_false h2, Bool.and_false]
        exact Ev.step (f := fun _ => some false) (fun k => by simp [spec_SideOk.j0]) (Ev.now false)
    · rw [decide_eq_false h1, Bool.false_and, Bool.and_false]
      refine Ev.neg (by decide) ?_
      exact Ev.step (f := fun _ => some false) (fun k => by simp [spec_SideOk.j0]) (Ev.now false)
theorem sideOk_impl (l : List S96) (hl : l.length ≤ 1048576) (sel win : Int) : Ev (fun k => impl_SideOk.f k l sel win) (sideOk l sel win) := by
  unfold impl_SideOk.f sideOk
  refine ev_all1 (F := fun k i => impl_SideOk.l0 k l (l.length : Int) i l sel win) (Ev.step (f := fun _ => some (decide (l.length ≤ 3) && (decide (0 ≤ sel ∧ sel ≤ 2) && decide (0 ≤ win ∧ win ≤ 1000)))) (fun k => ?_) (Ev.now _)) ?_
  · simp only [impl_SideOk.l0, in_impl, Option.bind_some]
    rw [if_neg (by omega)]
    by_cases h : l.length ≤ 3
    · rw [if_pos (show (l.length : Int) ≤ 3 by omega), decide_eq_true h, Bool.true_and]
      by_cases h1 : 0 ≤ sel ∧ sel ≤ 2
      · rw [decide_eq_true h1, if_pos rfl, Bool.true_and]
      · rw [decide_eq_false h1, if_neg (by decide), Bool.false_and]
    · rw [if_neg (show ¬ (l.length : Int) ≤ 3 by omega), decide_eq_false h, Bool.false_and]
  · intro i k hi
    simp only [impl_SideOk.l0, in_impl, Option.bind_some]
    rw [if_pos (by omega), if_pos (by omega), if_pos (by omega), wr_succ hi (by omega)]
    unfold sdP
    rw [and3_ite]
theorem sideOk_facts {l : List S96} {sel win : Int} (h : sideOk l sel win = true) : l.length ≤ 3 ∧ (0 ≤ sel ∧ sel ≤ 2) ∧ (0 ≤ win ∧ win ≤ 1000) ∧ ∀ i : Nat, i < l.length → (0 ≤ (rd_T96 l i).f0 ∧ (rd_T96 l i).f0 ≤ 1) ∧ (1 ≤ (rd_T96 l i).f1 ∧ (rd_T96 l i).f1 ≤ 1000) ∧ (1 ≤ (rd_T96 l i).f2 ∧ (rd_T96 l i).f2 ≤ 1000) := by
  unfold sideOk at h
  rw [Bool.and_eq_true, Bool.and_eq_true, Bool.and_eq_true, List.all_eq_true] at h
  refine ⟨of_decide_eq_true h.2.1, of_decide_eq_true h.2.2.1, of_decide_eq_true h.2.2.2, fun i hi => ?_⟩
  have := h.1 i (by rw [List.mem_range'_1]; omega)
  unfold sdP at this
  rw [Bool.and_eq_true, Bool.and_eq_true] at this
  exact ⟨of_decide_eq_true this.1, of_decide_eq_true this.2.1, of_decide_eq_true this.2.2⟩
theorem behaveOk_spec (ul : List S96) (us uw : Int) (dl : List S96) (ds dw : Int) (m n : Int) : Ev (fun k => spec_BehaveOk.f k ul us uw dl ds dw m n) (behaveOk ul us uw dl ds dw m n) := by
  unfold spec_BehaveOk.f behaveOk
  refine Ev.bind (sideOk_spec ul us uw) ?_
  cases sideOk ul us uw with
  | false => exact Ev.neg (by decide) (Ev.now _)
  | true =>
    refine Ev.pos rfl (Ev.bind (sideOk_spec dl ds dw) ?_)
    cases sideOk dl ds dw with
    | false => exact Ev.neg (by decide) (Ev.now _)
    | true =>
      refine Ev.pos rfl ?_
      rw [in_spec, in_spec]
      refine Ev.bind0 rfl ?_
      by_cases h : 0 ≤ n ∧ n ≤ 1000
      · refine Ev.pos (decide_eq_true h) ?_
        have e : (decide (0 ≤ m ∧ m ≤ n)) = (true && (true && decide (0 ≤ m ∧ m ≤ n ∧ n ≤ 1000))) := by rw [Bool.true_and, Bool.true_and]; exact decide_eq_decide.2 (by omega)
        rw [← e]
        exact Ev.now _
      · rw [decide_eq_false (show ¬ (0 ≤ m ∧ m ≤ n ∧ n ≤ 1000) by omega)]
        exact Ev.neg (by simpa using h) (Ev.now _)
theorem behaveOk_impl (ul : List S96) (hu : ul.length ≤ 1048576) (us uw : Int) (dl : List S96) (hd : dl.length ≤ 1048576) (ds dw : Int) (m n : Int) : Ev (fun k => impl_BehaveOk.f k ul us uw dl ds dw m n) (behaveOk ul us uw dl ds dw m n) := by
  unfold impl_BehaveOk.f behaveOk
  refine Ev.bind (sideOk_impl ul hu us uw) ?_
  cases sideOk ul us uw with
  | false => exact Ev.neg (by decide) (Ev.now _)
  | true =>
    refine Ev.pos rfl (Ev.bind (sideOk_impl dl hd ds dw) ?_)
    cases sideOk dl ds dw with
    | false => exact Ev.neg (by decide) (Ev.now _)
    | true =>
      refine Ev.pos rfl ?_
      by_cases h : m ≥ 0
      · refine Ev.pos h ?_
        by_cases h1 : m ≤ n
        · refine Ev.pos h1 ?_
          have e : (decide (n ≤ 1000)) = (true && (true && decide (0 ≤ m ∧ m ≤ n ∧ n ≤ 1000))) := by rw [Bool.true_and, Bool.true_and]; exact decide_eq_decide.2 (by omega)
          rw [← e]
          exact Ev.now _
        · rw [decide_eq_false (show ¬ (0 ≤ m ∧ m ≤ n ∧ n ≤ 1000) by omega)]
          exact Ev.neg h1 (Ev.now _)
      · rw [decide_eq_false (show ¬ (0 ≤ m ∧ m ≤ n ∧ n ≤ 1000) by omega)]
        exact Ev.neg h (Ev.now _)
theorem behaveOk_facts {ul : List S96} {us uw : Int} {dl : List S96} {ds dw m n : Int} (h : behaveOk ul us uw dl ds dw m n = true) : sideOk ul us uw = true ∧ sideOk dl ds dw = true ∧ 0 ≤ m ∧ m ≤ n ∧ n ≤ 1000 := by
  unfold behaveOk at h
  rw [Bool.and_eq_true, Bool.and_eq_true] at h
  exact ⟨h.1, h.2.1, of_decide_eq_true h.2.2⟩
end Go.Proofs.Ytfjjlipfjddaiaa.Base
/- NotesOk of the program and of the reference are one plain test, and what it tells.
   Conditions: none. -/
namespace Go.Proofs.Ytfjjlipfjddaiaa.Base
open Go.RowKit Go.Proofs.YtfjjlipfjddaiaaW.PrintWords Go.Proofs.YtfjjlipfjddaiaaW.PrintMore Go.Proofs.Ytfjjlipfjddaiaa.St
def ntP (l : List S109) (i : Nat) : Bool := decide ((0 ≤ (rd_T109 l i).f0 ∧ (rd_T109 l i).f0 ≤ 1000000000) ∧ (0 ≤ (rd_T109 l i).f1 ∧ (rd_T109 l i).f1 ≤ 1000) ∧ (0 < i → (rd_T109 l ((i - 1 : Nat) : Int)).f0 ≤ (rd_T109 l i).f0))
def ntOk (l : List S109) : Bool := (List.range' 0 l.length).all (ntP l) && decide (l.length ≤ 200)
theorem ntP_ite {α : Type} (l : List S109) (i : Nat) (a b : α) : (if ntP l i = true then a else b) = if decide (0 ≤ (rd_T109 l i).f0 ∧ (rd_T109 l i).f0 ≤ 1000000000) = true then (if decide (0 ≤ (rd_T109 l i).f1 ∧ (rd_T109 l i).f1 ≤ 1000) = true then (if (i : Int) > 0 then (if (rd_T109 l ((i - 1 : Nat) : Int)).f0 > (rd_T109 l i).f0 then b else a) else a) else b) else b := by
  unfold ntP
  by_cases h1 : 0 ≤ (rd_T109 l i).f0 ∧ (rd_T109 l i).f0 ≤ 1000000000
  · by_cases h2 : 0 ≤ (rd_T109 l i).f1 ∧ (rd_T109 l i).f1 ≤ 1000
    · by_cases h3 : 0 < i
      · by_cases h4 : (rd_T109 l ((i - 1 : Nat) : Int)).f0 ≤ (rd_T109 l i).f0
        · have h5 : ¬ (rd_T109 l ((i - 1 : Nat) : Int)).f0 > (rd_T109 l i).f0 := by omega
          have h6 : (i : Int) > 0 := by omega
          rw [if_pos (decide_eq_true ⟨h1, h2, fun _ => h4⟩), if_pos (decide_eq_true h1), if_pos (decide_eq_true h2), if_pos h6, if_neg h5]
        · have h5 : (rd_T109 l ((i - 1 : Nat) : Int)).f0 > (rd_T109 l i).f0 := by omega
          have h6 : (i : Int) > 0 := by omega
          rw [if_neg (by intro h; exact h4 ((of_decide_eq_true h).2.2 h3)), if_pos (decide_eq_true h1), if_pos (decide_eq_true h2), if_pos h6, if_pos h5]
      · have h6 : ¬ (i : Int) > 0 := by omega
        rw [if_pos (decide_eq_true ⟨h1, h2, fun h => absurd h h3⟩), if_pos (decide_eq_true h1), if_pos (decide_eq_true h2), if_neg h6]
    · rw [if_neg (by intro h; exact h2 (of_decide_eq_true h).2.1), if_pos (decide_eq_true h1), if_neg (by intro h; exact h2 (of_decide_eq_true h))]
  · rw [if_neg (by intro h; exact h1 (of_decide_eq_true h).1), if_neg (by intro h; exact h1 (of_decide_eq_true h))]
theorem ntOk_spec (l : List S109) (hl : l.length ≤ 1048576) : Ev (fun k => spec_NotesOk.f k l) (ntOk l) := by
  unfold spec_NotesOk.f ntOk
  by_cases h : (l.length : Int) > 200
  · rw [decide_eq_false (by omega), Bool.and_false]
    exact Ev.pos h (Ev.now false)
  · rw [decide_eq_true (by omega)]
    refine Ev.neg h (ev_all1 (F := fun k i => spec_NotesOk.l0 k l i) (Ev.step (f := fun _ => some true) (fun k => by simp only [spec_NotesOk.l0]; rw [if_neg (by omega)]) (Ev.now true)) ?_)
    intro i k hi
    simp only [spec_NotesOk.l0, tick_spec, count_spec, Option.bind_some]
    rw [if_pos (by omega), if_pos (by omega), wr_succ hi (by omega), ntP_ite]
    by_cases hp : (i : Int) > 0
    · rw [wr_pred (by omega) (by omega), if_pos (show (0 : Int) ≤ ((i - 1 : Nat) : Int) by omega), if_pos (show ((i - 1 : Nat) : Int) < (l.length : Int) by omega)]
    · simp only [if_neg hp]
theorem ntOk_impl (l : List S109) (hl : l.length ≤ 1048576) : Ev (fun k => impl_NotesOk.f k l) (ntOk l) := by
  unfold impl_NotesOk.f ntOk
  refine ev_all1 (F := fun k i => impl_NotesOk.l0 k l l (l.length : Int) i) (Ev.step (f := fun _ => some (decide (l.length ≤ 200))) (fun k => by simp only [impl_NotesOk.l0]; rw [if_neg (by omega)]; congr 1; exact decide_eq_decide.2 (by omega)) (Ev.now _)) ?_
  intro i k hi
  simp only [impl_NotesOk.l0, tick_impl, count_impl, Option.bind_some]
  rw [if_pos (by omega), if_pos (by omega), if_pos (by omega), wr_succ hi (by omega), ntP_ite]
  by_cases hp : (i : Int) > 0
  · rw [wr_pred (by omega) (by omega), if_pos (show (0 : Int) ≤ ((i - 1 : Nat) : Int) by omega), if_pos (show ((i - 1 : Nat) : Int) < (l.length : Int) by omega)]
  · simp only [if_neg hp]
/-- What NotesOk tells. -/
theorem ntOk_facts {l : List S109} (h : ntOk l = true) : l.length ≤ 200 ∧ ∀ i : Nat, i < l.length → (0 ≤ (rd_T109 l i).f0 ∧ (rd_T109 l i).f0 ≤ 1000000000) ∧ 0 ≤ (rd_T109 l i).f1 ∧ (rd_T109 l i).f1 ≤ 1000 := by
  unfold ntOk at h
  rw [Bool.and_eq_true, List.all_eq_true] at h
  refine ⟨of_decide_eq_true h.2, fun i hi => ?_⟩
  have := of_decide_eq_true (h.1 i (by rw [List.mem_range'_1]; omega))
  exact ⟨this.1, this.2.1⟩
end Go.Proofs.Ytfjjlipfjddaiaa.Base
/- Steady of the program and of the reference are one plain function.
   Conditions: none. -/
namespace Go.Proofs.Ytfjjlipfjddaiaa.Base
open Go.RowKit Go.Proofs.YtfjjlipfjddaiaaW.PrintWords Go.Proofs.YtfjjlipfjddaiaaW.PrintMore Go.Proofs.Ytfjjlipfjddaiaa.St
def stSt (l : List S109) (now uw dw : Int) (s : Int × Int) (i : Nat) : Int × Int :=
  if (rd_T109 l i).f0 > now then s else
    ((if (rd_T109 l i).f0 > now - uw then mn s.1 (rd_T109 l i).f1 else s.1), (if (rd_T109 l i).f0 > now - dw then mx s.2 (rd_T109 l i).f1 else s.2))
def stFin (c : Int) (s : Int × Int) : Int := if c < s.1 then s.1 else if c > s.2 then s.2 else c
def StOk (ul : List S96) (us uw : Int) (dl : List S96) (ds dw m n : Int) (l : List S109) (now count want : Int) : Prop :=
  behaveOk ul us uw dl ds dw m n = true ∧ ntOk l = true ∧ (0 ≤ now ∧ now ≤ 1000000000) ∧ (0 ≤ count ∧ count ≤ 1000) ∧ (0 ≤ want ∧ want ≤ 1000)
instance (ul : List S96) (us uw : Int) (dl : List S96) (ds dw m n : Int) (l : List S109) (now count want : Int) : Decidable (StOk ul us uw dl ds dw m n l now count want) := by unfold StOk; infer_instance
def steady (ul : List S96) (us uw : Int) (dl : List S96) (ds dw m n : Int) (l : List S109) (now count want : Int) : Int :=
  if StOk ul us uw dl ds dw m n l now count want then stFin count ((List.range' 0 l.length).foldl (stSt l now uw dw) (want, want)) else -1
def StInv (want : Int) (s : Int × Int) (_ : Nat) : Prop := 0 ≤ s.1 ∧ s.1 ≤ want ∧ want ≤ s.2 ∧ s.2 ≤ 1000
theorem stInv_step {l : List S109} (hf : ∀ i : Nat, i < l.length → (0 ≤ (rd_T109 l i).f0 ∧ (rd_T109 l i).f0 ≤ 1000000000) ∧ 0 ≤ (rd_T109 l i).f1 ∧ (rd_T109 l i).f1 ≤ 1000) (now uw dw want : Int) (s : Int × Int) (i : Nat) (hi : i < l.length) (h : StInv want s i) : StInv want (stSt l now uw dw s i) (i + 1) := by
  obtain ⟨h1, h2, h3, h4⟩ := h
  obtain ⟨_, f1, f2⟩ := hf i hi
  unfold StInv stSt
  split
  · exact ⟨h1, h2, h3, h4⟩
  · simp only [mn, mx]
    refine ⟨?_, ?_, ?_, ?_⟩ <;> (split <;> first | omega | (split <;> omega))
/-- What a stabilized count is. -/
theorem steady_facts {ul : List S96} {us uw : Int} {dl : List S96} {ds dw m n : Int} {l : List S109} {now count want : Int} (h : StOk ul us uw dl ds dw m n l now count want) :
    (∃ lo hi, 0 ≤ lo ∧ lo ≤ want ∧ want ≤ hi ∧ hi ≤ 1000 ∧ steady ul us uw dl ds dw m n l now count want = stFin count (lo, hi)) := by
  have hI := fold_inv (n := l.length) (st := stSt l now uw dw) (Inv := StInv want) (fun s i hi hI => stInv_step (ntOk_facts h.2.1).2 now uw dw want s i hi hI) l.length 0 (want, want) (by omega) ⟨h.2.2.2.2.1, Int.le_refl _, Int.le_refl _, h.2.2.2.2.2⟩
  obtain ⟨h1, h2, h3, h4⟩ := hI
  exact ⟨_, _, h1, h2, h3, h4, by unfold steady; rw [if_pos h]⟩
theorem stFin_range {c want lo hi : Int} (h1 : lo ≤ want) (h2 : want ≤ hi) : (c ≤ stFin c (lo, hi) ∧ stFin c (lo, hi) ≤ want) ∨ (want ≤ stFin c (lo, hi) ∧ stFin c (lo, hi) ≤ c) := by
  unfold stFin
  simp only
  split
  · omega
  · split <;> omega
theorem steady_range (ul : List S96) (us uw : Int) (dl : List S96) (ds dw m n : Int) (l : List S109) (now count want : Int) : steady ul us uw dl ds dw m n l now count want = -1 ∨ (StOk ul us uw dl ds dw m n l now count want ∧ 0 ≤ steady ul us uw dl ds dw m n l now count want ∧ steady ul us uw dl ds dw m n l now count want ≤ 1000) := by
  by_cases h : StOk ul us uw dl ds dw m n l now count want
  · right
    obtain ⟨lo, hi, _, g1, g2, _, e⟩ := steady_facts h
    have := stFin_range (c := count) g1 g2
    rw [e]
    obtain ⟨_, _, _, ⟨c1, c2⟩, w1, w2⟩ := h
    refine ⟨⟨‹_›, ‹_›, ‹_›, ⟨c1, c2⟩, w1, w2⟩, ?_, ?_⟩ <;> rcases this with this | this <;> omega
  · left; unfold steady; rw [if_neg h]
/-- Without windows it is the count that is wanted. -/
theorem steady_none (ul : List S96) (us : Int) (dl : List S96) (ds m n : Int) (l : List S109) (now count want : Int) (h : StOk ul us 0 dl ds 0 m n l now count want) : steady ul us 0 dl ds 0 m n l now count want = want := by
  unfold steady
  rw [if_pos h]
  have e : (List.range' 0 l.length).foldl (stSt l now 0 0) (want, want) = (want, want) := by
    have := fold_inv (n := l.length) (st := stSt l now 0 0) (Inv := fun s _ => s = (want, want)) (fun s i _ hI => by
      subst hI
      unfold stSt
      by_cases g : (rd_T109 l i).f0 > now
      · rw [if_pos g]
      · rw [if_neg g, if_neg (by omega), if_neg (by omega)]) l.length 0 (want, want) (by omega) rfl
    exact this
  rw [e]
  unfold stFin
  simp only
  split
  · rfl
  · split <;> omega
theorem steady_spec (ul : List S96) (us uw : Int) (dl : List S96) (ds dw m n : Int) (l : List S109) (hl : l.length ≤ 1048576) (now count want : Int) : Ev (fun k => spec_Steady.f k ul us uw dl ds dw m n l now count want) (steady ul us uw dl ds dw m n l now count want) := by
  unfold spec_Steady.f
  refine Ev.bind (behaveOk_spec ul us uw dl ds dw m n) ?_
  by_cases h0 : behaveOk ul us uw dl ds dw m n = true
  case neg =>
    rw [show steady ul us uw dl ds dw m n l now count want = -1 from if_neg (fun h => h0 h.1)]
    exact Ev.neg h0 (Ev.step (f := fun _ => some (-1)) (fun k => by simp [spec_Steady.j0]) (Ev.now _))
  refine Ev.pos h0 (Ev.bind (ntOk_spec l hl) ?_)
  by_cases h1 : ntOk l = true
  case neg =>
    rw [show steady ul us uw dl ds dw m n l now count want = -1 from if_neg (fun h => h1 h.2.1)]
    exact Ev.neg h1 (Ev.step (f := fun _ => some (-1)) (fun k => by simp [spec_Steady.j0]) (Ev.now _))
  refine Ev.pos h1 ?_
  rw [tick_spec, count_spec, count_spec]
  refine Ev.bind0 rfl ?_
  by_cases h2 : 0 ≤ now ∧ now ≤ 1000000000
  case neg =>
    rw [show steady ul us uw dl ds dw m n l now count want = -1 from if_neg (fun h => h2 h.2.2.1)]
    exact Ev.neg (fun h => h2 (of_decide_eq_true h)) (Ev.step (f := fun _ => some (-1)) (fun k => by simp [spec_Steady.j0]) (Ev.now _))
  refine Ev.pos (decide_eq_true h2) (Ev.bind0 rfl ?_)
  by_cases h3 : 0 ≤ count ∧ count ≤ 1000
  case neg =>
    rw [show steady ul us uw dl ds dw m n l now count want = -1 from if_neg (fun h => h3 h.2.2.2.1)]
    exact Ev.neg (fun h => h3 (of_decide_eq_true h)) (Ev.step (f := fun _ => some (-1)) (fun k => by simp [spec_Steady.j0]) (Ev.now _))
  refine Ev.pos (decide_eq_true h3) (Ev.bind0 rfl ?_)
  by_cases h4 : 0 ≤ want ∧ want ≤ 1000
  case neg =>
    rw [show steady ul us uw dl ds dw m n l now count want = -1 from if_neg (fun h => h4 h.2.2.2.2), decide_eq_false h4]
    exact Ev.step (f := fun _ => some (-1)) (fun k => by simp [spec_Steady.j0]) (Ev.now _)
  rw [show steady ul us uw dl ds dw m n l now count want = _ from if_pos ⟨h0, h1, h2, h3, h4⟩, decide_eq_true h4]
  obtain ⟨_, hf⟩ := ntOk_facts h1
  obtain ⟨hu, hd, _, _, _⟩ := behaveOk_facts h0
  obtain ⟨_, _, ⟨uw0, uw1⟩, _⟩ := sideOk_facts hu
  obtain ⟨_, _, ⟨dw0, dw1⟩, _⟩ := sideOk_facts hd
  have e1 : wrap64 (now - uw) = now - uw := wr_id (by omega) (by omega)
  have e2 : wrap64 (now - dw) = now - dw := wr_id (by omega) (by omega)
  refine Ev.step (f := fun k => spec_Steady.l0 k l now count want want 0 ul us uw dl ds dw m n) (fun k => by simp [spec_Steady.j0]) ?_
  refine ev_fold (F := fun k s i => spec_Steady.l0 k l now count s.1 s.2 i ul us uw dl ds dw m n) (n := l.length) (st := stSt l now uw dw) (out := stFin count) (Inv := StInv want) ?_ ?_ l.length 0 (want, want) (by omega) ⟨h4.1, Int.le_refl _, Int.le_refl _, h4.2⟩
  · intro s _
    exact Ev.step (f := fun _ => some (stFin count s)) (fun k => by simp only [spec_Steady.l0, stFin]; rw [if_neg (by omega)]; split; rfl; split <;> rfl) (Ev.now _)
  · intro s i hi hI
    refine ⟨stInv_step hf now uw dw want s i hi hI, fun r h => ?_⟩
    refine Ev.step (f := fun k => spec_Steady.j2 k l now count s.1 s.2 i (decide ((rd_T109 l i).f0 > now - uw ∧ (rd_T109 l i).f0 ≤ now ∧ (rd_T109 l i).f1 < s.1)) ul us uw dl ds dw m n (rd_T109 l i).f0 (rd_T109 l i).f1) (fun k => ?_) ?_
    · simp only [spec_Steady.l0]
      rw [if_pos (by omega), if_pos (by omega), e1]
      by_cases g1 : (rd_T109 l i).f0 > now - uw
      · rw [if_pos g1]
        by_cases g2 : (rd_T109 l i).f0 ≤ now
        · rw [if_pos g2]; simp [g1, g2]
        · rw [if_neg g2]; simp [g2]
      · rw [if_neg g1]; simp [g1]
    · refine Ev.step (fun k => ?_) h
      simp only [spec_Steady.j2, stSt, e2, wr_succ hi (show l.length ≤ 4611686018427387904 by omega)]
      by_cases g2 : (rd_T109 l i).f0 ≤ now
      · rw [if_neg (show ¬ (rd_T109 l i).f0 > now by omega)]
        by_cases g1 : (rd_T109 l i).f0 > now - uw
        · by_cases g3 : (rd_T109 l i).f1 < s.1
          · rw [decide_eq_true ⟨g1, g2, g3⟩]
            simp only [mn, mx, if_pos g1, if_pos g3, if_true]
            by_cases g4 : (rd_T109 l i).f0 > now - dw
            · simp only [if_pos g4, if_pos g2]
              by_cases g5 : (rd_T109 l i).f1 > s.2
              · rw [if_pos g5, if_pos (show s.2 < _ from g5)]
              · rw [if_neg g5, if_neg (show ¬ s.2 < _ from g5)]
            · simp only [if_neg g4]
          · rw [decide_eq_false (fun h => g3 h.2.2)]
            simp only [mn, mx, if_pos g1, if_neg g3, Bool.false_eq_true, if_false]
            by_cases g4 : (rd_T109 l i).f0 > now - dw
            · simp only [if_pos g4, if_pos g2]
              by_cases g5 : (rd_T109 l i).f1 > s.2
              · rw [if_pos g5, if_pos (show s.2 < _ from g5)]
              · rw [if_neg g5, if_neg (show ¬ s.2 < _ from g5)]
            · simp only [if_neg g4]
        · rw [decide_eq_false (fun h => g1 h.1)]
          simp only [mx, if_neg g1, Bool.false_eq_true, if_false]
          by_cases g4 : (rd_T109 l i).f0 > now - dw
          · simp only [if_pos g4, if_pos g2]
            by_cases g5 : (rd_T109 l i).f1 > s.2
            · rw [if_pos g5, if_pos (show s.2 < _ from g5)]
            · rw [if_neg g5, if_neg (show ¬ s.2 < _ from g5)]
          · simp only [if_neg g4]
      · rw [if_pos (show (rd_T109 l i).f0 > now by omega), decide_eq_false (fun h => g2 h.2.1)]
        simp only [Bool.false_eq_true, if_false, if_neg g2]
        split <;> rfl
theorem steady_impl (ul : List S96) (hul : ul.length ≤ 1048576) (us uw : Int) (dl : List S96) (hdl : dl.length ≤ 1048576) (ds dw m n : Int) (l : List S109) (hl : l.length ≤ 1048576) (now count want : Int) : Ev (fun k => impl_Steady.f k ul us uw dl ds dw m n l now count want) (steady ul us uw dl ds dw m n l now count want) := by
  unfold impl_Steady.f
  refine Ev.bind (behaveOk_impl ul hul us uw dl hdl ds dw m n) ?_
  by_cases h0 : behaveOk ul us uw dl ds dw m n = true
  case neg =>
    rw [show steady ul us uw dl ds dw m n l now count want = -1 from if_neg (fun h => h0 h.1)]
    exact Ev.neg h0 (Ev.step (f := fun _ => some (-1)) (fun k => by simp [impl_Steady.j0]) (Ev.now _))
  refine Ev.pos h0 (Ev.bind (ntOk_impl l hl) ?_)
  by_cases h1 : ntOk l = true
  case neg =>
    rw [show steady ul us uw dl ds dw m n l now count want = -1 from if_neg (fun h => h1 h.2.1)]
    exact Ev.neg h1 (Ev.step (f := fun _ => some (-1)) (fun k => by simp [impl_Steady.j0]) (Ev.now _))
  refine Ev.pos h1 ?_
  rw [tick_impl, count_impl, count_impl]
  refine Ev.bind0 rfl ?_
  by_cases h2 : 0 ≤ now ∧ now ≤ 1000000000
  case neg =>
    rw [show steady ul us uw dl ds dw m n l now count want = -1 from if_neg (fun h => h2 h.2.2.1)]
    exact Ev.neg (fun h => h2 (of_decide_eq_true h)) (Ev.step (f := fun _ => some (-1)) (fun k => by simp [impl_Steady.j0]) (Ev.now _))
  refine Ev.pos (decide_eq_true h2) (Ev.bind0 rfl ?_)
  by_cases h3 : 0 ≤ count ∧ count ≤ 1000
  case neg =>
    rw [show steady ul us uw dl ds dw m n l now count want = -1 from if_neg (fun h => h3 h.2.2.2.1)]
    exact Ev.neg (fun h => h3 (of_decide_eq_true h)) (Ev.step (f := fun _ => some (-1)) (fun k => by simp [impl_Steady.j0]) (Ev.now _))
  refine Ev.pos (decide_eq_true h3) (Ev.bind0 rfl ?_)
  by_cases h4 : 0 ≤ want ∧ want ≤ 1000
  case neg =>
    rw [show steady ul us uw dl ds dw m n l now count want = -1 from if_neg (fun h => h4 h.2.2.2.2), decide_eq_false h4]
    exact Ev.step (f := fun _ => some (-1)) (fun k => by simp [impl_Steady.j0]) (Ev.now _)
  rw [show steady ul us uw dl ds dw m n l now count want = _ from if_pos ⟨h0, h1, h2, h3, h4⟩, decide_eq_true h4]
  obtain ⟨_, hf⟩ := ntOk_facts h1
  obtain ⟨hu, hd, _, _, _⟩ := behaveOk_facts h0
  obtain ⟨_, _, ⟨uw0, uw1⟩, _⟩ := sideOk_facts hu
  obtain ⟨_, _, ⟨dw0, dw1⟩, _⟩ := sideOk_facts hd
  have e1 : wrap64 (now - uw) = now - uw := wr_id (by omega) (by omega)
  have e2 : wrap64 (now - dw) = now - dw := wr_id (by omega) (by omega)
  refine Ev.step (f := fun k => impl_Steady.l0 k now count want want l (l.length : Int) 0 ul us uw dl ds dw m n) (fun k => by simp [impl_Steady.j0]) ?_
  refine ev_fold (F := fun k s i => impl_Steady.l0 k now count s.1 s.2 l (l.length : Int) i ul us uw dl ds dw m n) (n := l.length) (st := stSt l now uw dw) (out := stFin count) (Inv := StInv want) ?_ ?_ l.length 0 (want, want) (by omega) ⟨h4.1, Int.le_refl _, Int.le_refl _, h4.2⟩
  · intro s _
    exact Ev.step (f := fun _ => some (stFin count s)) (fun k => by simp only [impl_Steady.l0, stFin]; rw [if_neg (by omega)]; split; rfl; split <;> rfl) (Ev.now _)
  · intro s i hi hI
    refine ⟨stInv_step hf now uw dw want s i hi hI, fun r h => Ev.step (fun k => ?_) h⟩
    simp only [impl_Steady.l0, stSt, e1, e2, wr_succ hi (show l.length ≤ 4611686018427387904 by omega)]
    rw [if_pos (by omega), if_pos (by omega), if_pos (by omega)]
    by_cases g0 : (rd_T109 l i).f0 > now
    · rw [if_pos g0, if_pos g0]
    · rw [if_neg g0, if_neg g0]
      by_cases g1 : (rd_T109 l i).f0 > now - uw
      · by_cases g2 : (rd_T109 l i).f0 > now - dw
        · simp only [if_pos g1, if_pos g2]
        · simp only [if_pos g1, if_neg g2]
      · by_cases g2 : (rd_T109 l i).f0 > now - dw
        · simp only [if_neg g1, if_pos g2]
        · simp only [if_neg g1, if_neg g2]
end Go.Proofs.Ytfjjlipfjddaiaa.Base
/- The draws end, whatever the code; how great what they give may be.
   Conditions: none. -/
namespace Go.Proofs.Ytfjjlipfjddaiaa.Base
open Go.RowKit Go.Proofs.YtfjjlipfjddaiaaW.PrintWords Go.Proofs.YtfjjlipfjddaiaaW.PrintMore Go.Proofs.Ytfjjlipfjddaiaa.St
theorem and255 (n : Int) : Go.bits .and .i64 n 255 = n % 256 := by
  have h255 : (BitVec.ofInt 64 255).toNat = 2 ^ 8 - 1 := by decide
  have key : (BitVec.ofInt 64 n &&& BitVec.ofInt 64 255).toNat = (n % ((2 ^ 64 : Nat) : Int)).toNat % 2 ^ 8 := by
    rw [BitVec.toNat_and, BitVec.toNat_ofInt, h255, Nat.and_two_pow_sub_one_eq_mod]
  show IntKind.i64.wrap ((BitVec.ofInt 64 n &&& BitVec.ofInt 64 255).toNat : Nat) = n % 256
  rw [key, IntKind.wrap_i64]
  omega
/-- The cursor stands within its bytes. -/
def Cur (b : List Int) (i : Int) : Prop := 0 ≤ i ∧ i ≤ (b.length : Int) ∧ b.length ≤ 1048576
theorem byte_ok (b : List Int) (i h : Int) (hi : Cur b i) : ∃ x i' h', spec_l01Byte.f b i h = some (x, i', h') ∧ 0 ≤ x ∧ x ≤ 255 ∧ Cur b i' := by
  obtain ⟨h0, h1, h2⟩ := hi
  unfold spec_l01Byte.f
  by_cases hl : i < (b.length : Int)
  · rw [if_pos hl, if_pos h0]
    refine ⟨_, _, _, rfl, ?_, ?_, ?_⟩
    · rw [and255]; omega
    · rw [and255]; omega
    · have : wrap64 (i + 1) = i + 1 := wr_id (by omega) (by omega)
      rw [this]
      exact ⟨by omega, by omega, h2⟩
  · rw [if_neg hl]
    refine ⟨_, _, _, rfl, ?_, ?_, h0, h1, h2⟩
    · rw [and255]; omega
    · rw [and255]; omega
theorem below_ok (b : List Int) (i h n : Int) (hi : Cur b i) (hn : 1 ≤ n) (hn2 : n ≤ 256) : ∃ x i' h', spec_l01Below.f b i h n = some (x, i', h') ∧ 0 ≤ x ∧ x < n ∧ Cur b i' := by
  obtain ⟨x, i', h', e, x0, x1, hc⟩ := byte_ok b i h hi
  unfold spec_l01Below.f
  rw [if_neg (by omega), if_pos hn2, e, Option.bind_some, if_neg (by omega)]
  exact ⟨_, _, _, rfl, Int.tmod_nonneg _ x0, Int.tmod_lt_of_pos _ (by omega), hc⟩
theorem pick_ok (b : List Int) (i h : Int) (l : List Int) (hi : Cur b i) (hn : 1 ≤ l.length) (hn2 : l.length ≤ 256) : ∃ x i' h', spec_l01PickInt.f b i h l = some (x, i', h') ∧ Cur b i' := by
  obtain ⟨x, i', h', e, x0, x1, hc⟩ := below_ok b i h (l.length : Int) hi (by omega) (by omega)
  unfold spec_l01PickInt.f
  rw [e, Option.bind_some, if_pos x0, if_pos x1]
  exact ⟨_, _, _, rfl, hc⟩
theorem once_ok (b : List Int) (i h n : Int) (hi : Cur b i) (hn : 1 ≤ n) (hn2 : n ≤ 256) : ∃ x i' h', spec_l01Once.f b i h n = some (x, i', h') ∧ Cur b i' := by
  obtain ⟨x, i', h', e, x0, x1, hc⟩ := below_ok b i h n hi hn hn2
  unfold spec_l01Once.f
  rw [e, Option.bind_some]
  exact ⟨_, _, _, rfl, hc⟩
theorem new_ok (b : List Int) (hb : b.length ≤ 1048576) : ∃ h, Ev (fun k => spec_l01New.f k b) (b, 0, h) := by
  unfold spec_l01New.f
  have key : ∀ d i : Nat, i + d = b.length → ∀ h : Int, ∃ h', Ev (fun k => spec_l01New.l0 k b h (i : Int)) (b, 0, h') := by
    intro d
    induction d with
    | zero =>
      intro i hi h
      exact ⟨h, Ev.step (fun k => rfl) (Ev.neg (by omega) (Ev.now _))⟩
    | succ d ih =>
      intro i hi h
      by_cases h4 : (i : Int) < 4000
      · obtain ⟨h', e⟩ := ih (i + 1) (by omega) (Go.bits .and .i64 (wrap64 ((wrap64 ((wrap64 (h * 149)) + (wrap64 (rd b (i : Int))))) + 11)) 1073741823)
        refine ⟨h', Ev.step (fun k => rfl) (Ev.pos (by omega) (Ev.pos h4 (Ev.pos (by omega) ?_)))⟩
        rw [wr_succ (show i < b.length by omega) (by omega)]
        exact e
      · exact ⟨h, Ev.step (fun k => rfl) (Ev.pos (by omega) (Ev.neg h4 (Ev.now _)))⟩
  exact key b.length 0 (by omega) _
theorem side_ok (b : List Int) (i h : Int) (hi : Cur b i) : ∃ l s w i' h', Ev (fun k => spec_l06DrawSide.f k b i h) (l, s, w, i', h') ∧ l.length ≤ 10 ∧ Cur b i' := by
  obtain ⟨s, i1, h1, e1, c1⟩ := pick_ok b i h [0, 0, 1, 1, 2] hi (by decide) (by decide)
  obtain ⟨w, i2, h2, e2, c2⟩ := pick_ok b i1 h1 [0, 0, 5, 20] c1 (by decide) (by decide)
  obtain ⟨n, i3, h3, e3, n0, n1, c3⟩ := below_ok b i2 h2 4 c2 (by decide) (by decide)
  have key : ∀ d : Nat, d ≤ 10 → ∀ (i h : Int) (l : List S96), Cur b i → l.length + d ≤ 10 → ∃ l' i' h', Ev (fun k => spec_l06DrawSide.l0 k (d : Int) b i h l s w) (l', s, w, i', h') ∧ l'.length ≤ 10 ∧ Cur b i' := by
    intro d
    induction d with
    | zero =>
      intro _ i h l hc hl
      exact ⟨l, i, h, Ev.step (fun k => rfl) (Ev.neg (by omega) (Ev.now _)), by omega, hc⟩
    | succ d ih =>
      intro hd i h l hc hl
      obtain ⟨a, i1, h1, e1, a0, a1, c1⟩ := below_ok b i h 2 hc (by decide) (by decide)
      obtain ⟨p, i2, h2, e2, p0, p1, c2⟩ := below_ok b i1 h1 20 c1 (by decide) (by decide)
      obtain ⟨v, i3, h3, e3, v0, v1, c3⟩ := below_ok b i2 h2 4 c2 (by decide) (by decide)
      have wd : wrap64 (((d + 1 : Nat) : Int) - 1) = (d : Int) := by rw [wr_id (by omega) (by omega)]; omega
      by_cases ha : a = 1
      · obtain ⟨u, i4, h4, e4, c4⟩ := pick_ok b i3 h3 [10, 50, 100, 200] c3 (by decide) (by decide)
        obtain ⟨l', i', h', e, g1, g2⟩ := ih (by omega) i4 h4 (l ++ [(⟨a, u, wrap64 (1 + p)⟩ : S96)]) c4 (by simp; omega)
        refine ⟨l', i', h', Ev.step (fun k => rfl) (Ev.pos (by omega) (Ev.bind0 e1 (Ev.bind0 e2 (Ev.bind0 e3 (Ev.pos ha (Ev.bind0 e4 (Ev.pos (by omega) ?_))))))), g1, g2⟩
        rw [wd]
        exact e
      · obtain ⟨l', i', h', e, g1, g2⟩ := ih (by omega) i3 h3 (l ++ [(⟨a, wrap64 (1 + v), wrap64 (1 + p)⟩ : S96)]) c3 (by simp; omega)
        refine ⟨l', i', h', Ev.step (fun k => rfl) (Ev.pos (by omega) (Ev.bind0 e1 (Ev.bind0 e2 (Ev.bind0 e3 (Ev.neg ha (Ev.pos (by omega) ?_)))))), g1, g2⟩
        rw [wd]
        exact e
  obtain ⟨l', i', h', e, g1, g2⟩ := key n.toNat (by omega) i3 h3 [] c3 (by simp; omega)
  rw [show ((n.toNat : Nat) : Int) = n by omega] at e
  unfold spec_l06DrawSide.f
  exact ⟨l', s, w, i', h', Ev.bind0 e1 (Ev.bind0 e2 (Ev.bind0 e3 e)), g1, g2⟩
theorem behave_ok (b : List Int) (i h : Int) (hi : Cur b i) : ∃ l s w l' s' w' m n i' h', Ev (fun k => spec_l06DrawBehave.f k b i h) (l, s, w, l', s', w', m, n, i', h') ∧ l.length ≤ 10 ∧ l'.length ≤ 10 ∧ Cur b i' := by
  obtain ⟨l, s, w, i1, h1, e1, g1, c1⟩ := side_ok b i h hi
  obtain ⟨l', s', w', i2, h2, e2, g2, c2⟩ := side_ok b i1 h1 c1
  obtain ⟨m, i3, h3, e3, _, _, c3⟩ := below_ok b i2 h2 4 c2 (by decide) (by decide)
  obtain ⟨n, i4, h4, e4, c4⟩ := pick_ok b i3 h3 [4, 10, 20, 0] c3 (by decide) (by decide)
  unfold spec_l06DrawBehave.f
  exact ⟨_, _, _, _, _, _, _, _, _, _, Ev.bind e1 (Ev.bind e2 (Ev.bind0 e3 (Ev.bind0 e4 (Ev.now _)))), g1, g2, c4⟩
theorem loose_ok (b : List Int) (i h : Int) (hi : Cur b i) : ∃ l s w l' s' w' m n i' h', Ev (fun k => spec_l06Loose.f k b i h) (l, s, w, l', s', w', m, n, i', h') ∧ l.length ≤ 20 ∧ l'.length ≤ 20 ∧ Cur b i' := by
  obtain ⟨l, s, w, l', s', w', m, n, i1, h1, e1, g1, g2, c1⟩ := behave_ok b i h hi
  obtain ⟨o, i2, h2, e2, c2⟩ := once_ok b i1 h1 12 c1 (by decide) (by decide)
  unfold spec_l06Loose.f
  cases o with
  | false => exact ⟨_, _, _, _, _, _, _, _, _, _, Ev.bind e1 (Ev.bind0 e2 (Ev.neg (by simp) (Ev.now _))), (show l.length ≤ 20 by omega), (show l'.length ≤ 20 by omega), c2⟩
  | true =>
    obtain ⟨x, i3, h3, e3, x0, x1, c3⟩ := below_ok b i2 h2 5 c2 (by decide) (by decide)
    by_cases q0 : x = 0
    · obtain ⟨y, i4, h4, e4, c4⟩ := pick_ok b i3 h3 [-1, wrap64 (n + 1)] c3 (by simp) (by simp)
      exact ⟨_, _, _, _, _, _, _, _, _, _, Ev.bind e1 (Ev.bind0 e2 (Ev.pos rfl (Ev.bind0 e3 (Ev.pos q0 (Ev.bind0 e4 (Ev.now _)))))), (show l.length ≤ 20 by omega), (show l'.length ≤ 20 by omega), c4⟩
    by_cases q1 : x = 1
    · obtain ⟨y, i4, h4, e4, c4⟩ := pick_ok b i3 h3 [1000, 1001] c3 (by simp) (by simp)
      exact ⟨_, _, _, _, _, _, _, _, _, _, Ev.bind e1 (Ev.bind0 e2 (Ev.pos rfl (Ev.bind0 e3 (Ev.neg q0 (Ev.pos q1 (Ev.bind0 e4 (Ev.now _))))))), (show l.length ≤ 20 by omega), (show l'.length ≤ 20 by omega), c4⟩
    by_cases q2 : x = 2
    · obtain ⟨y, i4, h4, e4, c4⟩ := pick_ok b i3 h3 [-1, 3] c3 (by simp) (by simp)
      exact ⟨_, _, _, _, _, _, _, _, _, _, Ev.bind e1 (Ev.bind0 e2 (Ev.pos rfl (Ev.bind0 e3 (Ev.neg q0 (Ev.neg q1 (Ev.pos q2 (Ev.bind0 e4 (Ev.now _)))))))), (show l.length ≤ 20 by omega), (show l'.length ≤ 20 by omega), c4⟩
    by_cases q3 : x = 3
    · obtain ⟨y, i4, h4, e4, c4⟩ := pick_ok b i3 h3 [-1, 1000, 1001] c3 (by simp) (by simp)
      exact ⟨_, _, _, _, _, _, _, _, _, _, Ev.bind e1 (Ev.bind0 e2 (Ev.pos rfl (Ev.bind0 e3 (Ev.neg q0 (Ev.neg q1 (Ev.neg q2 (Ev.pos q3 (Ev.bind0 e4 (Ev.now _))))))))), (show l.length ≤ 20 by omega), (show l'.length ≤ 20 by omega), c4⟩
    have q4 : x = 4 := by omega
    exact ⟨_, _, _, _, _, _, _, _, _, _, Ev.bind e1 (Ev.bind0 e2 (Ev.pos rfl (Ev.bind0 e3 (Ev.neg q0 (Ev.neg q1 (Ev.neg q2 (Ev.neg q3 (Ev.pos q4 (Ev.pos (show l.length < 5864062014805 by omega) (Ev.now _)))))))))), (show (l ++ [(⟨2, 1, 1⟩ : S96)]).length ≤ 20 by simp; omega), (show l'.length ≤ 20 by omega), c3⟩
theorem notes_ok (b : List Int) (i h : Int) (hi : Cur b i) : ∃ l i' h', Ev (fun k => spec_l06DrawNotes.f k b i h) (l, i', h') ∧ l.length ≤ 1000 ∧ Cur b i' := by
  have k1 : ∀ D : Nat, ∀ (l : List S109), 300 ≤ l.length + D → l.length ≤ 300 → ∀ i h : Int, Cur b i → ∃ l' i' h', Ev (fun k => spec_l06DrawNotes.l1 k l b i h) (l', i', h') ∧ l'.length ≤ 1000 ∧ Cur b i' := by
    intro D
    induction D with
    | zero =>
      intro l hl hl2 i h hc
      obtain ⟨x, i1, h1, e1, x0, x1, c1⟩ := below_ok b i h 2 hc (by decide) (by decide)
      have hw : wrap64 (200 + x) = 200 + x := wr_id (by omega) (by omega)
      exact ⟨_, _, _, Ev.step (fun k => rfl) (Ev.bind0 e1 (Ev.neg (by rw [hw]; omega) (Ev.now _))), by omega, c1⟩
    | succ D ih =>
      intro l hl hl2 i h hc
      obtain ⟨x, i1, h1, e1, x0, x1, c1⟩ := below_ok b i h 2 hc (by decide) (by decide)
      have hw : wrap64 (200 + x) = 200 + x := wr_id (by omega) (by omega)
      by_cases hs : (l.length : Int) < 200 + x
      · obtain ⟨l', i', h', e, g1, g2⟩ := ih (l ++ [(⟨90, 3⟩ : S109)]) (by simp; omega) (by simp; omega) i1 h1 c1
        exact ⟨l', i', h', Ev.step (fun k => rfl) (Ev.bind0 e1 (Ev.pos (by rw [hw]; exact hs) (Ev.pos (by omega) e))), g1, g2⟩
      · exact ⟨_, _, _, Ev.step (fun k => rfl) (Ev.bind0 e1 (Ev.neg (by rw [hw]; exact hs) (Ev.now _))), by omega, c1⟩
  have k2 : ∀ (l : List S109) (i h : Int), l.length ≤ 100 → Cur b i → ∃ l' i' h', Ev (fun k => spec_l06DrawNotes.j2 k l b i h) (l', i', h') ∧ l'.length ≤ 1000 ∧ Cur b i' := by
    intro l i h hl hc
    obtain ⟨o, i1, h1, e1, c1⟩ := once_ok b i h 40 hc (by decide) (by decide)
    cases o with
    | false => exact ⟨_, _, _, Ev.step (fun k => spec_l06DrawNotes.j2.eq_2 ..) (Ev.bind0 e1 (Ev.neg (by simp) (Ev.now _))), by omega, c1⟩
    | true =>
      obtain ⟨l', i', h', e, g1, g2⟩ := k1 300 l (by omega) (by omega) i1 h1 c1
      exact ⟨l', i', h', Ev.step (fun k => spec_l06DrawNotes.j2.eq_2 ..) (Ev.bind0 e1 (Ev.pos rfl e)), g1, g2⟩
  have k3 : ∀ (l : List S109) (o : Bool) (i h : Int), l.length ≤ 100 → (o = true → 0 < l.length) → Cur b i → ∃ l' i' h', Ev (fun k => spec_l06DrawNotes.j1 k l o b i h) (l', i', h') ∧ l'.length ≤ 1000 ∧ Cur b i' := by
    intro l o i h hl ho hc
    cases o with
    | false =>
      obtain ⟨l', i', h', e, g1, g2⟩ := k2 l i h hl hc
      exact ⟨l', i', h', Ev.step (fun k => spec_l06DrawNotes.j1.eq_2 ..) (Ev.neg (by simp) e), g1, g2⟩
    | true =>
      have hp := ho rfl
      obtain ⟨x, i1, h1, e1, x0, x1, c1⟩ := below_ok b i h (l.length : Int) hc (by omega) (by omega)
      obtain ⟨y, i2, h2, e2, c2⟩ := pick_ok b i1 h1 [-1, 999, 0] c1 (by simp) (by simp)
      obtain ⟨z, i3, h3, e3, c3⟩ := pick_ok b i2 h2 [-1, 5, 1001] c2 (by simp) (by simp)
      obtain ⟨l', i', h', e, g1, g2⟩ := k2 (l.set x.toNat (⟨y, z⟩ : S109)) i3 h3 (by simpa using hl) c3
      exact ⟨l', i', h', Ev.step (fun k => spec_l06DrawNotes.j1.eq_2 ..) (Ev.pos rfl (Ev.bind0 e1 (Ev.bind0 e2 (Ev.bind0 e3 (Ev.pos x0 (Ev.pos x1 e)))))), g1, g2⟩
  have k0 : ∀ d : Nat, ∀ (l : List S109) (t : Int) (i h : Int), l.length + d ≤ 100 → Cur b i → ∃ l' i' h', Ev (fun k => spec_l06DrawNotes.l0 k l t (d : Int) b i h) (l', i', h') ∧ l'.length ≤ 1000 ∧ Cur b i' := by
    intro d
    induction d with
    | zero =>
      intro l t i h hl hc
      obtain ⟨o, i1, h1, e1, c1⟩ := once_ok b i h 15 hc (by decide) (by decide)
      cases o with
      | false =>
        obtain ⟨l', i', h', e, g1, g2⟩ := k3 l false i1 h1 (by omega) (by simp) c1
        exact ⟨l', i', h', Ev.step (fun k => spec_l06DrawNotes.l0.eq_2 ..) (Ev.neg (by omega) (Ev.bind0 e1 (Ev.neg (by simp) e))), g1, g2⟩
      | true =>
        obtain ⟨l', i', h', e, g1, g2⟩ := k3 l (decide ((l.length : Int) > 0)) i1 h1 (by omega) (fun hq => by have := of_decide_eq_true hq; omega) c1
        exact ⟨l', i', h', Ev.step (fun k => spec_l06DrawNotes.l0.eq_2 ..) (Ev.neg (by omega) (Ev.bind0 e1 (Ev.pos rfl e))), g1, g2⟩
    | succ d ih =>
      intro l t i h hl hc
      obtain ⟨x, i1, h1, e1, x0, x1, c1⟩ := below_ok b i h 8 hc (by decide) (by decide)
      obtain ⟨y, i2, h2, e2, y0, y1, c2⟩ := below_ok b i1 h1 12 c1 (by decide) (by decide)
      have wd : wrap64 (((d + 1 : Nat) : Int) - 1) = (d : Int) := by rw [wr_id (by omega) (by omega)]; omega
      obtain ⟨l', i', h', e, g1, g2⟩ := ih (l ++ [(⟨wrap64 (t + x), y⟩ : S109)]) (wrap64 (t + x)) i2 h2 (by simp; omega) c2
      refine ⟨l', i', h', Ev.step (fun k => spec_l06DrawNotes.l0.eq_2 ..) (Ev.pos (by omega) (Ev.bind0 e1 (Ev.bind0 e2 (Ev.pos (by omega) ?_)))), g1, g2⟩
      rw [wd]
      exact e
  obtain ⟨n, i1, h1, e1, n0, n1, c1⟩ := below_ok b i h 10 hi (by decide) (by decide)
  obtain ⟨l', i', h', e, g1, g2⟩ := k0 n.toNat [] 0 i1 h1 (by simp; omega) c1
  rw [show ((n.toNat : Nat) : Int) = n by omega] at e
  unfold spec_l06DrawNotes.f
  exact ⟨l', i', h', Ev.bind0 e1 e, g1, g2⟩
theorem now_ok (b : List Int) (i h : Int) (hi : Cur b i) : ∃ x i' h', spec_l04DrawNow.f b i h = some (x, i', h') ∧ Cur b i' := by
  obtain ⟨x, i1, h1, e1, _, _, c1⟩ := below_ok b i h 70 hi (by decide) (by decide)
  obtain ⟨y, i2, h2, e2, _, _, c2⟩ := below_ok b i1 h1 70 c1 (by decide) (by decide)
  obtain ⟨z, i3, h3, e3, c3⟩ := pick_ok b i2 h2 [x, y, 30, -1, 1000000000] c2 (by simp) (by simp)
  unfold spec_l04DrawNow.f
  exact ⟨z, i3, h3, by rw [e1, Option.bind_some, e2, Option.bind_some, e3, Option.bind_some], c3⟩
theorem count_ok (b : List Int) (i h : Int) (hi : Cur b i) : ∃ x i' h', spec_l06DrawCount.f b i h = some (x, i', h') ∧ Cur b i' := by
  obtain ⟨x, i1, h1, e1, _, _, c1⟩ := below_ok b i h 12 hi (by decide) (by decide)
  obtain ⟨y, i2, h2, e2, _, _, c2⟩ := below_ok b i1 h1 12 c1 (by decide) (by decide)
  obtain ⟨v, i3, h3, e3, _, _, c3⟩ := below_ok b i2 h2 30 c2 (by decide) (by decide)
  obtain ⟨z, i4, h4, e4, c4⟩ := pick_ok b i3 h3 [x, y, v, 0, 1000, 1001, -1] c3 (by simp) (by simp)
  unfold spec_l06DrawCount.f
  exact ⟨z, i4, h4, by rw [e1, Option.bind_some, e2, Option.bind_some, e3, Option.bind_some, e4, Option.bind_some], c4⟩
end Go.Proofs.Ytfjjlipfjddaiaa.Base
namespace Go.Proofs.Ytfjjlipfjddaiaa.Pure
open Go.RowKit Go.Proofs.YtfjjlipfjddaiaaW.PrintWords Go.Proofs.YtfjjlipfjddaiaaW.PrintMore Go.Proofs.Ytfjjlipfjddaiaa.St Go.Proofs.Ytfjjlipfjddaiaa.Base
theorem drawSteady_ok (b : List Int) (hb : b.length ≤ 1048576) : ∃ ul us uw dl ds dw m n ls now count want, Ev (fun k => spec_DrawSteady.f k b) (ul, us, uw, dl, ds, dw, m, n, ls, now, count, want) ∧ ul.length ≤ 20 ∧ dl.length ≤ 20 ∧ ls.length ≤ 1000 := by
  obtain ⟨h0, e0⟩ := new_ok b hb
  obtain ⟨ul, us, uw, dl, ds, dw, m, n, i1, h1, e1, g1, g2, c1⟩ := loose_ok b 0 h0 ⟨by omega, by omega, hb⟩
  obtain ⟨ls, i2, h2, e2, g3, c2⟩ := notes_ok b i1 h1 c1
  obtain ⟨now, i3, h3, e3, c3⟩ := now_ok b i2 h2 c2
  obtain ⟨count, i4, h4, e4, c4⟩ := count_ok b i3 h3 c3
  obtain ⟨want, i5, h5, e5, c5⟩ := count_ok b i4 h4 c4
  unfold spec_DrawSteady.f
  exact ⟨_, _, _, _, _, _, _, _, _, _, _, _, Ev.bind e0 (Ev.bind e1 (Ev.bind e2 (Ev.bind0 e3 (Ev.bind0 e4 (Ev.bind0 e5 (Ev.now _)))))), g1, g2, g3⟩
theorem side_zero {l : List S96} {s w : Int} (h : sideOk l s w = true) : sideOk l s 0 = true := by
  unfold sideOk at h ⊢
  rw [Bool.and_eq_true, Bool.and_eq_true, Bool.and_eq_true] at h
  rw [Bool.and_eq_true, Bool.and_eq_true, Bool.and_eq_true]
  exact ⟨h.1, h.2.1, h.2.2.1, rfl⟩
theorem stOk_zero {ul : List S96} {us uw : Int} {dl : List S96} {ds dw m n : Int} {l : List S109} {now count want : Int} (h : StOk ul us uw dl ds dw m n l now count want) : StOk ul us 0 dl ds 0 m n l now count want := by
  obtain ⟨h1, h2⟩ := h
  refine ⟨?_, h2⟩
  unfold behaveOk at h1 ⊢
  rw [Bool.and_eq_true, Bool.and_eq_true] at h1
  rw [side_zero h1.1, side_zero h1.2.1, h1.2.2]
  rfl
theorem ev_beq (a : Int) : Ev (fun _ => some (a == a)) true := by
  rw [beq_self_eq_true]
  exact Ev.now true
theorem FnSteady : ∀ (l0 : List Int), (l0.length ≤ 9223372036854775807 ∧ ∀ x ∈ l0, (Lit.int .u8 x).wf = true) → ∃ k, laws_FnSteady.f k l0 = some true := by
  intro b _
  apply Ev.rounds (g := fun k => laws_FnSteady.f k b)
  unfold laws_FnSteady.f laws_big.f
  refine Ev.bind0 rfl ?_
  by_cases hb : (b.length : Int) > 1048576
  · exact Ev.pos (decide_eq_true hb) (Ev.now true)
  refine Ev.neg (by rw [decide_eq_true_eq]; exact hb) ?_
  obtain ⟨ul, us, uw, dl, ds, dw, m, n, ls, now, count, want, e, g1, g2, g3⟩ := drawSteady_ok b (by omega)
  refine Ev.bind e (Ev.bind (steady_impl ul (by omega) us uw dl (by omega) ds dw m n ls (by omega) now count want) (Ev.bind (steady_spec ul us uw dl ds dw m n ls (by omega) now count want) (Ev.pos rfl ?_)))
  by_cases h : StOk ul us uw dl ds dw m n ls now count want
  · obtain ⟨lo, hi, f0, f1, f2, f3, ef⟩ := steady_facts h
    have hr := stFin_range (c := count) f1 f2
    obtain ⟨_, _, _, ⟨c0, c1⟩, w0, w1⟩ := id h
    rw [← ef] at hr
    generalize steady ul us uw dl ds dw m n ls now count want = x at hr
    have hz := steady_impl ul (by omega) us 0 dl (by omega) ds 0 m n ls (by omega) now count want
    rw [steady_none ul us dl ds m n ls now count want (stOk_zero h)] at hz
    refine Ev.neg (by omega) ?_
    by_cases h1 : want < count
    · exact Ev.pos h1 (Ev.neg (show ¬ want > count by omega) (Ev.pos (show x ≥ want by omega) (Ev.pos (show x ≤ count by omega) (Ev.bind hz (ev_beq want)))))
    · refine Ev.neg h1 ?_
      by_cases h2 : want > count
      · exact Ev.pos h2 (Ev.pos (show x ≥ count by omega) (Ev.pos (show x ≤ want by omega) (Ev.bind hz (ev_beq want))))
      · exact Ev.neg h2 (Ev.pos (show x ≥ count by omega) (Ev.pos (show x ≤ count by omega) (Ev.bind hz (ev_beq want))))
  · have hx : steady ul us uw dl ds dw m n ls now count want = -1 := if_neg h
    rw [hx]
    exact Ev.pos (show (-1 : Int) < 0 by decide) (ev_beq (-1))
end Go.Proofs.Ytfjjlipfjddaiaa.Pure
