/- For every code the law of the bounds answers true.
   Conditions: none. -/
import Derived.Test.YtfjjlipfjddaiaaVMore
import Derived.Test.YtfjjlipfjddaiaaBo22
import Derived.Test.YtfjjlipfjddaiaaBo20
import Derived.Test.YtfjjlipfjddaiaaBo8
import Derived.Test.YtfjjlipfjddaiaaBo10
import Derived.Test.YtfjjlipfjddaiaaBo21
import Derived.Test.YtfjjlipfjddaiaaBo9
import Derived.Test.YtfjjlipfjddaiaaBo25
import Derived.Test.YtfjjlipfjddaiaaBo13
import Derived.Test.YtfjjlipfjddaiaaBo27
import Derived.Test.YtfjjlipfjddaiaaBo14
import Derived.Test.YtfjjlipfjddaiaaBo28
import Derived.Test.YtfjjlipfjddaiaaBo30
import Derived.Test.YtfjjlipfjddaiaaBo15
import Derived.Test.YtfjjlipfjddaiaaBo17
import Derived.Test.YtfjjlipfjddaiaaBo29
import Derived.Test.YtfjjlipfjddaiaaBo16
import Derived.Test.YtfjjlipfjddaiaaBo26
import Derived.Test.YtfjjlipfjddaiaaBo31
import Derived.Test.YtfjjlipfjddaiaaBo18
import Derived.Test.YtfjjlipfjddaiaaBo33
import Derived.Test.YtfjjlipfjddaiaaBo19
import Derived.Test.YtfjjlipfjddaiaaBo32
import Derived.Test.YtfjjlipfjddaiaaBo23
import Derived.Test.YtfjjlipfjddaiaaBo11
import Derived.Test.YtfjjlipfjddaiaaBo24
import Derived.Test.YtfjjlipfjddaiaaBo12
import Derived.Test.YtfjjlipfjddaiaaBo34
import Derived.Test.YtfjjlipfjddaiaaBo2
import Derived.Test.YtfjjlipfjddaiaaBo1
import Derived.Test.YtfjjlipfjddaiaaBo4
import Derived.Test.YtfjjlipfjddaiaaBo3
import Derived.Test.YtfjjlipfjddaiaaBo5
import Derived.Test.YtfjjlipfjddaiaaBo6
import Derived.Laws.BitsLemmas
import Derived.Test.YtfjjlipfjddaiaaBo7
import Derived.Test.YtfjjlipfjddaiaaBo35
/- Plain facts: loops of the printed functions, from some number of rounds on.
   Conditions: none. -/
namespace Go.Proofs.Ytfjjlipfjddaiaa.Base
open Go.RowKit Go.Proofs.YtfjjlipfjddaiaaW.PrintWords Go.Proofs.YtfjjlipfjddaiaaW.PrintMore

theorem wr_succ {i n : Nat} (h : i < n) (hn : n ≤ 4611686018427387904) : wrap64 ((i : Int) + 1) = ((i + 1 : Nat) : Int) := by
  unfold wrap64; omega
theorem wr_pred {i : Nat} (h : 0 < i) (hn : i ≤ 4611686018427387904) : wrap64 ((i : Int) - 1) = ((i - 1 : Nat) : Int) := by
  unfold wrap64; omega
theorem wr_id {x : Int} (h : -9223372036854775808 ≤ x) (h' : x ≤ 9223372036854775807) : wrap64 x = x := by
  unfold wrap64; omega

theorem Ev.pos {α : Type} {c : Prop} [Decidable c] {f g : Nat → Option α} {r : α} (hc : c) (h : Ev f r) : Ev (fun k => if c then f k else g k) r := by
  obtain ⟨K, h⟩ := h
  exact ⟨K, fun k hk => (if_pos hc).trans (h k hk)⟩
theorem Ev.neg {α : Type} {c : Prop} [Decidable c] {f g : Nat → Option α} {r : α} (hc : ¬ c) (h : Ev g r) : Ev (fun k => if c then f k else g k) r := by
  obtain ⟨K, h⟩ := h
  exact ⟨K, fun k hk => (if_neg hc).trans (h k hk)⟩
/-- A bind of what needs no rounds. -/
theorem Ev.bind0 {α β : Type} {o : Option α} {a : α} {f : Nat → α → Option β} {r : β} (h : o = some a) (k : Ev (fun n => f n a) r) : Ev (fun n => o.bind (f n)) r := by
  subst h; exact k
theorem Ev.unique {α : Type} {g : Nat → Option α} {r q : α} (h : Ev g r) (h' : Ev g q) : r = q := by
  obtain ⟨K, h⟩ := h
  obtain ⟨K', h'⟩ := h'
  have a := h (max K K') (Nat.le_max_left _ _)
  rw [h' (max K K') (Nat.le_max_right _ _)] at a
  exact (Option.some.inj a).symm

/-- A loop over 0 .. n-1 with a state. -/
theorem ev_fold {σ ρ : Type} {F : Nat → σ → Int → Option ρ} {n : Nat} {st : σ → Nat → σ} {out : σ → ρ} {Inv : σ → Nat → Prop}
    (hend : ∀ s, Inv s n → Ev (fun k => F k s (n : Int)) (out s))
    (hstep : ∀ s i, i < n → Inv s i → Inv (st s i) (i + 1) ∧ ∀ r, Ev (fun k => F k (st s i) ((i + 1 : Nat) : Int)) r → Ev (fun k => F k s (i : Int)) r) :
    ∀ d i s, i + d = n → Inv s i → Ev (fun k => F k s (i : Int)) (out ((List.range' i d).foldl st s)) := by
  intro d
  induction d with
  | zero =>
    intro i s hi hI
    obtain rfl : i = n := by omega
    simpa using hend s hI
  | succ d ih =>
    intro i s hi hI
    obtain ⟨hI', hs⟩ := hstep s i (by omega) hI
    rw [List.range'_succ, List.foldl_cons]
    exact hs _ (ih (i + 1) (st s i) (by omega) hI')

theorem fold_inv {σ : Type} {n : Nat} {st : σ → Nat → σ} {Inv : σ → Nat → Prop} (hstep : ∀ s i, i < n → Inv s i → Inv (st s i) (i + 1)) :
    ∀ d i s, i + d = n → Inv s i → Inv ((List.range' i d).foldl st s) n := by
  intro d
  induction d with
  | zero => intro i s hi h; obtain rfl : i = n := by omega
            simpa using h
  | succ d ih => intro i s hi h; rw [List.range'_succ, List.foldl_cons]; exact ih (i + 1) _ (by omega) (hstep s i (by omega) h)

/-- A loop over 0 .. n-1 that ends at the first i where p does not hold. -/
theorem ev_all {F : Nat → Int → Option Bool} {n : Nat} {p : Nat → Bool} {q : Bool}
    (hend : Ev (fun k => F k (n : Int)) q)
    (hno : ∀ i, i < n → p i = false → Ev (fun k => F k (i : Int)) false)
    (hstep : ∀ i r, i < n → p i = true → Ev (fun k => F k ((i + 1 : Nat) : Int)) r → Ev (fun k => F k (i : Int)) r) :
    ∀ d i, i + d = n → Ev (fun k => F k (i : Int)) ((List.range' i d).all p && q) := by
  intro d
  induction d with
  | zero =>
    intro i hi
    obtain rfl : i = n := by omega
    simpa using hend
  | succ d ih =>
    intro i hi
    rw [List.range'_succ, List.all_cons]
    cases hp : p i with
    | false => simpa using hno i (by omega) hp
    | true =>
      rw [Bool.true_and]
      exact hstep i _ (by omega) hp (ih (i + 1) (by omega))

/-- The same where each round takes one. -/
theorem ev_all1 {F : Nat → Int → Option Bool} {n : Nat} {p : Nat → Bool} {q : Bool}
    (hend : Ev (fun k => F k (n : Int)) q)
    (hstep : ∀ i k, i < n → F (k + 1) (i : Int) = if p i = true then F k ((i + 1 : Nat) : Int) else some false) :
    Ev (fun k => F k 0) ((List.range' 0 n).all p && q) :=
  ev_all (F := F) (n := n) (p := p) (q := q) hend (fun i hi hp => Ev.step (f := fun _ => some false) (fun k => by rw [hstep i k hi, hp]; simp) (Ev.now false))
    (fun i r hi hp h => Ev.step (fun k => by rw [hstep i k hi, hp]; simp) h) n 0 (by omega)

/-- A loop that fills a list, one place a round. -/
theorem ev_fill {β : Type} {F : Nat → List β → Int → Option (List β)} {n : Nat} {g : Nat → β}
    (hend : ∀ s : List β, s.length = n → Ev (fun k => F k s (n : Int)) s)
    (hstep : ∀ (s : List β) (i : Nat) (r : List β), i < n → s.length = n → Ev (fun k => F k (s.set i (g i)) ((i + 1 : Nat) : Int)) r → Ev (fun k => F k s (i : Int)) r)
    (s : List β) (hs : s.length = n) : Ev (fun k => F k s 0) ((List.range n).map g) := by
  have h := ev_fold (F := F) (n := n) (st := fun s i => s.set i (g i)) (out := fun s => s) (Inv := fun s i => s.length = n ∧ ∀ j, j < i → s[j]? = some (g j)) (fun s hI => hend s hI.1)
    (fun s i hi hI => ⟨⟨by rw [List.length_set]; exact hI.1, fun j hj => by
      by_cases hji : j = i
      · subst hji; rw [List.getElem?_set_self (by omega)]
      · rw [List.getElem?_set_ne (by omega)]; exact hI.2 j (by omega)⟩, fun r h => hstep s i r hi hI.1 h⟩) n 0 s (by omega) ⟨hs, fun j hj => absurd hj (Nat.not_lt_zero _)⟩
  have e : (List.range' 0 n).foldl (fun s i => s.set i (g i)) s = (List.range n).map g := by
    have key : ∀ d i (s : List β), s.length = n → i + d = n → (∀ j, j < i → s[j]? = some (g j)) → ∀ j, j < n → ((List.range' i d).foldl (fun s i => s.set i (g i)) s)[j]? = some (g j) ∧ ((List.range' i d).foldl (fun s i => s.set i (g i)) s).length = n := by
      intro d
      induction d with
      | zero => intro i s hs hi hj j hjn; simpa using ⟨hj j (by omega), hs⟩
      | succ d ih =>
        intro i s hs hi hj j hjn
        rw [List.range'_succ, List.foldl_cons]
        refine ih (i + 1) _ (by rw [List.length_set]; exact hs) (by omega) (fun j hj' => ?_) j hjn
        by_cases hji : j = i
        · subst hji; rw [List.getElem?_set_self (by omega)]
        · rw [List.getElem?_set_ne (by omega)]; exact hj j (by omega)
    apply List.ext_getElem?
    intro j
    by_cases hj : j < n
    · rw [(key n 0 s hs (by omega) (fun j hj => absurd hj (Nat.not_lt_zero _)) j hj).1]
      simp [hj]
    · have hl : ((List.range' 0 n).foldl (fun s i => s.set i (g i)) s).length = n := by
        by_cases h0 : n = 0
        · subst h0; simpa using hs
        · exact (key n 0 s hs (by omega) (fun j hj => absurd hj (Nat.not_lt_zero _)) 0 (by omega)).2
      rw [List.getElem?_eq_none (by omega)]
      simp [hj]
  rw [e] at h
  exact h

theorem map_range_getD {α β : Type} (l : List α) (d : α) (f : α → β) : ((List.range l.length).map fun i => f (l.getD i d)) = l.map f := by
  apply List.ext_getElem?
  intro i
  by_cases hi : i < l.length
  · simp [hi, List.getD]
  · simp [hi]

theorem sz_len {n : Nat} (hn : n ≤ 9223372036854775807) {L : Int} (h0 : 0 ≤ L) (hL : L ≤ 1048576) : wrap64 (L - (n : Int)) = L - n := by
  unfold wrap64; omega
end Go.Proofs.Ytfjjlipfjddaiaa.Base
/- The tests of numbers: of the program and of the reference, one plain test each.
   Conditions: none. -/
namespace Go.Proofs.Ytfjjlipfjddaiaa.Base
open Go.RowKit Go.Proofs.YtfjjlipfjddaiaaW.PrintWords Go.Proofs.YtfjjlipfjddaiaaW.PrintMore Go.Proofs.Ytfjjlipfjddaiaa.Bo
theorem in_impl (a b c : Int) : impl_in.f a b c = some (decide (b ≤ a ∧ a ≤ c)) := by
  unfold impl_in.f
  by_cases h : a ≥ b
  · rw [if_pos h]; have h' : b ≤ a := h; simp [h']
  · rw [if_neg h]; have h' : ¬ b ≤ a := h; simp [h']
theorem in_spec (a b c : Int) : spec_l01In.f a b c = some (decide (b ≤ a ∧ a ≤ c)) := by
  unfold spec_l01In.f
  by_cases h : b ≤ a
  · rw [if_pos h]; simp [h]
  · rw [if_neg h]; simp [h]
theorem tick_impl (a : Int) : impl_isTick.f a = some (decide (0 ≤ a ∧ a ≤ 1000000000)) := by
  unfold impl_isTick.f; rw [in_impl]; rfl
theorem tick_spec (a : Int) : spec_l02Tick.f a = some (decide (0 ≤ a ∧ a ≤ 1000000000)) := by
  unfold spec_l02Tick.f; rw [in_spec]; rfl
theorem count_impl (a : Int) : impl_isCount.f a = some (decide (0 ≤ a ∧ a ≤ 1000)) := by
  unfold impl_isCount.f; rw [in_impl]; rfl
theorem count_spec (a : Int) : spec_l05Count.f a = some (decide (0 ≤ a ∧ a ≤ 1000)) := by
  unfold spec_l05Count.f; rw [in_spec]; rfl
end Go.Proofs.Ytfjjlipfjddaiaa.Base
/- SideOk and BehaveOk of the program and of the reference are one plain test each.
   Conditions: none. -/
namespace Go.Proofs.Ytfjjlipfjddaiaa.Base
open Go.RowKit Go.Proofs.YtfjjlipfjddaiaaW.PrintWords Go.Proofs.YtfjjlipfjddaiaaW.PrintMore Go.Proofs.Ytfjjlipfjddaiaa.Bo
def sdP (l : List S96) (i : Nat) : Bool := decide (0 ≤ (rd_T96 l i).f0 ∧ (rd_T96 l i).f0 ≤ 1) && (decide (1 ≤ (rd_T96 l i).f1 ∧ (rd_T96 l i).f1 ≤ 1000) && decide (1 ≤ (rd_T96 l i).f2 ∧ (rd_T96 l i).f2 ≤ 1000))
def sideOk (l : List S96) (sel win : Int) : Bool := (List.range' 0 l.length).all (sdP l) && (decide (l.length ≤ 3) && (decide (0 ≤ sel ∧ sel ≤ 2) && decide (0 ≤ win ∧ win ≤ 1000)))
def behaveOk (ul : List S96) (us uw : Int) (dl : List S96) (ds dw : Int) (mn_ mx_ : Int) : Bool := sideOk ul us uw && (sideOk dl ds dw && decide (0 ≤ mn_ ∧ mn_ ≤ mx_ ∧ mx_ ≤ 1000))
theorem and3_ite {α : Type} (a b c : Bool) (x y : α) : (if (a && (b && c)) = true then x else y) = if a = true then (if b = true then (if c = true then x else y) else y) else y := by
  cases a <;> cases b <;> cases c <;> rfl
theorem sideOk_spec (l : List S96) (sel win : Int) : Ev (fun k => spec_SideOk.f k l sel win) (sideOk l sel win) := by
  unfold spec_SideOk.f sideOk
  by_cases h : (l.length : Int) > 3
  · rw [decide_eq_false (show ¬ l.length ≤ 3 by omega), Bool.false_and, Bool.and_false]
    exact Ev.pos h (Ev.step (f := fun _ => some false) (fun k => by simp [spec_SideOk.j0]) (Ev.now false))
  · rw [decide_eq_true (show l.length ≤ 3 by omega), Bool.true_and]
    refine Ev.neg h ?_
    rw [in_spec, in_spec]
    refine Ev.bind0 rfl ?_
    by_cases h1 : 0 ≤ sel ∧ sel ≤ 2
    · rw [decide_eq_true h1, Bool.true_and]
      refine Ev.pos rfl (Ev.bind0 rfl ?_)
      by_cases h2 : 0 ≤ win ∧ win ≤ 1000
      · rw [decide_eq_true h2]
        refine Ev.step (f := fun k => spec_SideOk.l0 k 0 l sel win) (fun k => by simp [spec_SideOk.j0]) ?_
        refine ev_all1 (F := fun k i => spec_SideOk.l0 k i l sel win) (Ev.step (f := fun _ => some true) (fun k => by simp only [spec_SideOk.l0]; rw [if_neg (by omega)]) (Ev.now true)) ?_
        intro i k hi
        simp only [spec_SideOk.l0, in_spec, Option.bind_some]
        rw [if_pos (by omega), if_pos (by omega), wr_succ hi (by omega)]
        unfold sdP
        rw [and3_ite]
      · rw [decide_eq_false h2, Bool.and_false]
        exact Ev.step (f := fun _ => some false) (fun k => by simp [spec_SideOk.j0]) (Ev.now false)
    · rw [decide_eq_false h1, Bool.false_and, Bool.and_false]
      refine Ev.neg (by decide) ?_
      exact Ev.step (f := fun _ => some false) (fun k => by simp [spec_SideOk.j0]) (Ev.now false)
theorem sideOk_impl (l : List S96) (hl : l.length ≤ 1048576) (sel win : Int) : Ev (fun k => impl_SideOk.f k l sel win) (sideOk l sel win) := by
  unfold impl_SideOk.f sideOk
  refine ev_all1 (F := fun k i => impl_SideOk.l0 k l (l.length : Int) i l sel win) (Ev.step (f := fun _ => some (decide (l.length ≤ 3) && (decide (0 ≤ sel ∧ sel ≤ 2) && decide (0 ≤ win ∧ win ≤ 1000)))) (fun k => ?_) (Ev.now _)) ?_
  · simp only [impl_SideOk.l0, in_impl, Option.bind_some]
    rw [if_neg (by omega)]
    by_cases h : l.length ≤ 3
    · rw [if_pos (show (l.length : Int) ≤ 3 by omega), decide_eq_true h, Bool.true_and]
      by_cases h1 : 0 ≤ sel ∧ sel ≤ 2
      · rw [decide_eq_true h1, if_pos rfl, Bool.true_and]
      · rw [decide_eq_false h1, if_neg (by decide), Bool.false_and]
    · rw [if_neg (show ¬ (l.length : Int) ≤ 3 by omega), decide_eq_false h, Bool.false_and]
  · intro i k hi
    simp only [impl_SideOk.l0, in_impl, Option.bind_some]
    rw [if_pos (by omega), if_pos (by omega), if_pos (by omega), wr_succ hi (by omega)]
    unfold sdP
    rw [and3_ite]
theorem sideOk_facts {l : List S96} {sel win : Int} (h : sideOk l sel win = true) : l.length ≤ 3 ∧ (0 ≤ sel ∧ sel ≤ 2) ∧ (0 ≤ win ∧ win ≤ 1000) ∧ ∀ i : Nat, i < l.length → (0 ≤ (rd_T96 l i).f0 ∧ (rd_T96 l i).f0 ≤ 1) ∧ (1 ≤ (rd_T96 l i).f1 ∧ (rd_T96 l i).f1 ≤ 1000) ∧ (1 ≤ (rd_T96 l i).f2 ∧ (rd_T96 l i).f2 ≤ 1000) := by
  unfold sideOk at h
  rw [Bool.and_eq_true, Bool.and_eq_true, Bool.and_eq_true, List.all_eq_true] at h
  refine ⟨of_decide_eq_true h.2.1, of_decide_eq_true h.2.2.1, of_decide_eq_true h.2.2.2, fun i hi => ?_⟩
  have := h.1 i (by rw [List.mem_range'_1]; omega)
  unfold sdP at this
  rw [Bool.and_eq_true, Bool.and_eq_true] at this
  exact ⟨of_decide_eq_true this.1, of_decide_eq_true this.2.1, of_decide_eq_true this.2.2⟩
theorem behaveOk_spec (ul : List S96) (us uw : Int) (dl : List S96) (ds dw : Int) (m n : Int) : Ev (fun k => spec_BehaveOk.f k ul us uw dl ds dw m n) (behaveOk ul us uw dl ds dw m n) := by
  unfold spec_BehaveOk.f behaveOk
  refine Ev.bind (sideOk_spec ul us uw) ?_
  cases sideOk ul us uw with
  | false => exact Ev.neg (by decide) (Ev.now _)
  | true =>
    refine Ev.pos rfl (Ev.bind (sideOk_spec dl ds dw) ?_)
    cases sideOk dl ds dw with
    | false => exact Ev.neg (by decide) (Ev.now _)
    | true =>
      refine Ev.pos rfl ?_
      rw [in_spec, in_spec]
      refine Ev.bind0 rfl ?_
      by_cases h : 0 ≤ n ∧ n ≤ 1000
      · refine Ev.pos (decide_eq_true h) ?_
        have e : (decide (0 ≤ m ∧ m ≤ n)) = (true && (true && decide (0 ≤ m ∧ m ≤ n ∧ n ≤ 1000))) := by rw [Bool.true_and, Bool.true_and]; exact decide_eq_decide.2 (by omega)
        rw [← e]
        exact Ev.now _
      · rw [decide_eq_false (show ¬ (0 ≤ m ∧ m ≤ n ∧ n ≤ 1000) by omega)]
        exact Ev.neg (by simpa using h) (Ev.now _)
theorem behaveOk_impl (ul : List S96) (hu : ul.length ≤ 1048576) (us uw : Int) (dl : List S96) (hd : dl.length ≤ 1048576) (ds dw : Int) (m n : Int) : Ev (fun k => impl_BehaveOk.f k ul us uw dl ds dw m n) (behaveOk ul us uw dl ds dw m n) := by
  unfold impl_BehaveOk.f behaveOk
  refine Ev.bind (sideOk_impl ul hu us uw) ?_
  cases sideOk ul us uw with
  | false => exact Ev.neg (by decide) (Ev.now _)
  | true =>
    refine Ev.pos rfl (Ev.bind (sideOk_impl dl hd ds dw) ?_)
    cases sideOk dl ds dw with
    | false => exact Ev.neg (by decide) (Ev.now _)
    | true =>
      refine Ev.pos rfl ?_
      by_cases h : m ≥ 0
      · refine Ev.pos h ?_
        by_cases h1 : m ≤ n
        · refine Ev.pos h1 ?_
          have e : (decide (n ≤ 1000)) = (true && (true && decide (0 ≤ m ∧ m ≤ n ∧ n ≤ 1000))) := by rw [Bool.true_and, Bool.true_and]; exact decide_eq_decide.2 (by omega)
          rw [← e]
          exact Ev.now _
        · rw [decide_eq_false (show ¬ (0 ≤ m ∧ m ≤ n ∧ n ≤ 1000) by omega)]
          exact Ev.neg h1 (Ev.now _)
      · rw [decide_eq_false (show ¬ (0 ≤ m ∧ m ≤ n ∧ n ≤ 1000) by omega)]
        exact Ev.neg h (Ev.now _)
theorem behaveOk_facts {ul : List S96} {us uw : Int} {dl : List S96} {ds dw m n : Int} (h : behaveOk ul us uw dl ds dw m n = true) : sideOk ul us uw = true ∧ sideOk dl ds dw = true ∧ 0 ≤ m ∧ m ≤ n ∧ n ≤ 1000 := by
  unfold behaveOk at h
  rw [Bool.and_eq_true, Bool.and_eq_true] at h
  exact ⟨h.1, h.2.1, of_decide_eq_true h.2.2⟩
end Go.Proofs.Ytfjjlipfjddaiaa.Base
/- MovesOk of the program and of the reference are one plain test, and what it tells.
   Conditions: none. -/
namespace Go.Proofs.Ytfjjlipfjddaiaa.Base
open Go.RowKit Go.Proofs.YtfjjlipfjddaiaaW.PrintWords Go.Proofs.YtfjjlipfjddaiaaW.PrintMore Go.Proofs.Ytfjjlipfjddaiaa.Bo
def mvP (l : List S103) (i : Nat) : Bool := decide ((0 ≤ (rd_T103 l i).f0 ∧ (rd_T103 l i).f0 ≤ 1000000000) ∧ (-1000 ≤ (rd_T103 l i).f1 ∧ (rd_T103 l i).f1 ≤ 1000) ∧ (0 < i → (rd_T103 l ((i - 1 : Nat) : Int)).f0 ≤ (rd_T103 l i).f0))
def mvOk (l : List S103) : Bool := (List.range' 0 l.length).all (mvP l) && decide (l.length ≤ 200)
theorem mvP_ite {α : Type} (l : List S103) (i : Nat) (a b : α) : (if mvP l i = true then a else b) = if decide (0 ≤ (rd_T103 l i).f0 ∧ (rd_T103 l i).f0 ≤ 1000000000) = true then (if decide (-1000 ≤ (rd_T103 l i).f1 ∧ (rd_T103 l i).f1 ≤ 1000) = true then (if (i : Int) > 0 then (if (rd_T103 l ((i - 1 : Nat) : Int)).f0 > (rd_T103 l i).f0 then b else a) else a) else b) else b := by
  unfold mvP
  by_cases h1 : 0 ≤ (rd_T103 l i).f0 ∧ (rd_T103 l i).f0 ≤ 1000000000
  · by_cases h2 : -1000 ≤ (rd_T103 l i).f1 ∧ (rd_T103 l i).f1 ≤ 1000
    · by_cases h3 : 0 < i
      · by_cases h4 : (rd_T103 l ((i - 1 : Nat) : Int)).f0 ≤ (rd_T103 l i).f0
        · have h5 : ¬ (rd_T103 l ((i - 1 : Nat) : Int)).f0 > (rd_T103 l i).f0 := by omega
          have h6 : (i : Int) > 0 := by omega
          rw [if_pos (decide_eq_true ⟨h1, h2, fun _ => h4⟩), if_pos (decide_eq_true h1), if_pos (decide_eq_true h2), if_pos h6, if_neg h5]
        · have h5 : (rd_T103 l ((i - 1 : Nat) : Int)).f0 > (rd_T103 l i).f0 := by omega
          have h6 : (i : Int) > 0 := by omega
          rw [if_neg (by intro h; exact h4 ((of_decide_eq_true h).2.2 h3)), if_pos (decide_eq_true h1), if_pos (decide_eq_true h2), if_pos h6, if_pos h5]
      · have h6 : ¬ (i : Int) > 0 := by omega
        rw [if_pos (decide_eq_true ⟨h1, h2, fun h => absurd h h3⟩), if_pos (decide_eq_true h1), if_pos (decide_eq_true h2), if_neg h6]
    · rw [if_neg (by intro h; exact h2 (of_decide_eq_true h).2.1), if_pos (decide_eq_true h1), if_neg (by intro h; exact h2 (of_decide_eq_true h))]
  · rw [if_neg (by intro h; exact h1 (of_decide_eq_true h).1), if_neg (by intro h; exact h1 (of_decide_eq_true h))]
theorem mvOk_spec (l : List S103) (hl : l.length ≤ 1048576) : Ev (fun k => spec_MovesOk.f k l) (mvOk l) := by
  unfold spec_MovesOk.f mvOk
  by_cases h : (l.length : Int) > 200
  · rw [decide_eq_false (by omega), Bool.and_false]
    exact Ev.pos h (Ev.now false)
  · rw [decide_eq_true (by omega)]
    refine Ev.neg h (ev_all1 (F := fun k i => spec_MovesOk.l0 k l i) (Ev.step (f := fun _ => some true) (fun k => by simp only [spec_MovesOk.l0]; rw [if_neg (by omega)]) (Ev.now true)) ?_)
    intro i k hi
    simp only [spec_MovesOk.l0, tick_spec, in_spec, Option.bind_some]
    rw [if_pos (by omega), if_pos (by omega), wr_succ hi (by omega), mvP_ite]
    by_cases hp : (i : Int) > 0
    · rw [wr_pred (by omega) (by omega), if_pos (show (0 : Int) ≤ ((i - 1 : Nat) : Int) by omega), if_pos (show ((i - 1 : Nat) : Int) < (l.length : Int) by omega)]
    · simp only [if_neg hp]
theorem mvOk_impl (l : List S103) (hl : l.length ≤ 1048576) : Ev (fun k => impl_MovesOk.f k l) (mvOk l) := by
  unfold impl_MovesOk.f mvOk
  refine ev_all1 (F := fun k i => impl_MovesOk.l0 k l l (l.length : Int) i) (Ev.step (f := fun _ => some (decide (l.length ≤ 200))) (fun k => by simp only [impl_MovesOk.l0]; rw [if_neg (by omega)]; congr 1; exact decide_eq_decide.2 (by omega)) (Ev.now _)) ?_
  intro i k hi
  simp only [impl_MovesOk.l0, tick_impl, in_impl, Option.bind_some]
  rw [if_pos (by omega), if_pos (by omega), if_pos (by omega), wr_succ hi (by omega), mvP_ite]
  by_cases hp : (i : Int) > 0
  · rw [wr_pred (by omega) (by omega), if_pos (show (0 : Int) ≤ ((i - 1 : Nat) : Int) by omega), if_pos (show ((i - 1 : Nat) : Int) < (l.length : Int) by omega)]
  · simp only [if_neg hp]
/-- What MovesOk tells. -/
theorem mvOk_facts {l : List S103} (h : mvOk l = true) : l.length ≤ 200 ∧ ∀ i : Nat, i < l.length → (0 ≤ (rd_T103 l i).f0 ∧ (rd_T103 l i).f0 ≤ 1000000000) ∧ -1000 ≤ (rd_T103 l i).f1 ∧ (rd_T103 l i).f1 ≤ 1000 := by
  unfold mvOk at h
  rw [Bool.and_eq_true, List.all_eq_true] at h
  refine ⟨of_decide_eq_true h.2, fun i hi => ?_⟩
  have := of_decide_eq_true (h.1 i (by rw [List.mem_range'_1]; omega))
  exact ⟨this.1, this.2.1⟩
end Go.Proofs.Ytfjjlipfjddaiaa.Base
/- MovedIn of the program and of the reference are one plain function.
   Conditions: none. -/
namespace Go.Proofs.Ytfjjlipfjddaiaa.Base
open Go.RowKit Go.Proofs.YtfjjlipfjddaiaaW.PrintWords Go.Proofs.YtfjjlipfjddaiaaW.PrintMore Go.Proofs.Ytfjjlipfjddaiaa.Bo
def mvSt (l : List S103) (now per : Int) (s : Int × Int) (i : Nat) : Int × Int :=
  if now - per < (rd_T103 l i).f0 ∧ (rd_T103 l i).f0 ≤ now then (s.1 + mx 0 (rd_T103 l i).f1, s.2 + mx 0 (-(rd_T103 l i).f1)) else s
def movedIn (l : List S103) (now per : Int) : Int × Int :=
  if mvOk l = true ∧ (0 ≤ now ∧ now ≤ 1000000000) ∧ (0 ≤ per ∧ per ≤ 1000) then (List.range' 0 l.length).foldl (mvSt l now per) (0, 0) else (0, 0)
def MvInv (s : Int × Int) (i : Nat) : Prop := 0 ≤ s.1 ∧ s.1 ≤ 1000 * i ∧ 0 ≤ s.2 ∧ s.2 ≤ 1000 * i
theorem mvInv_step {l : List S103} (hf : ∀ i : Nat, i < l.length → (0 ≤ (rd_T103 l i).f0 ∧ (rd_T103 l i).f0 ≤ 1000000000) ∧ -1000 ≤ (rd_T103 l i).f1 ∧ (rd_T103 l i).f1 ≤ 1000) (now per : Int) (s : Int × Int) (i : Nat) (hi : i < l.length) (h : MvInv s i) : MvInv (mvSt l now per s i) (i + 1) := by
  obtain ⟨h1, h2, h3, h4⟩ := h
  obtain ⟨_, f1, f2⟩ := hf i hi
  unfold MvInv mvSt
  split
  · simp only [mx]
    refine ⟨?_, ?_, ?_, ?_⟩ <;> split <;> omega
  · refine ⟨?_, ?_, ?_, ?_⟩ <;> omega
theorem movedIn_bounds (l : List S103) (now per : Int) : 0 ≤ (movedIn l now per).1 ∧ (movedIn l now per).1 ≤ 200000 ∧ 0 ≤ (movedIn l now per).2 ∧ (movedIn l now per).2 ≤ 200000 := by
  unfold movedIn
  split
  · rename_i h
    obtain ⟨hl, hf⟩ := mvOk_facts h.1
    have := fold_inv (n := l.length) (st := mvSt l now per) (Inv := MvInv) (fun s i hi hI => mvInv_step hf now per s i hi hI) l.length 0 (0, 0) (by omega) ⟨by simp, by simp, by simp, by simp⟩
    obtain ⟨h1, h2, h3, h4⟩ := this
    refine ⟨h1, ?_, h3, ?_⟩ <;> omega
  · simp
theorem movedIn_spec (l : List S103) (hl : l.length ≤ 1048576) (now per : Int) : Ev (fun k => spec_MovedIn.f k l now per) (movedIn l now per) := by
  unfold spec_MovedIn.f
  refine Ev.bind (mvOk_spec l hl) ?_
  unfold movedIn
  by_cases h1 : mvOk l = true
  · refine Ev.pos h1 ?_
    rw [tick_spec]
    refine Ev.bind0 rfl ?_
    by_cases h2 : 0 ≤ now ∧ now ≤ 1000000000
    · refine Ev.pos (decide_eq_true h2) ?_
      rw [in_spec]
      refine Ev.bind0 rfl ?_
      by_cases h3 : 0 ≤ per ∧ per ≤ 1000
      · rw [if_pos ⟨h1, h2, h3⟩, decide_eq_true h3]
        obtain ⟨_, hf⟩ := mvOk_facts h1
        refine Ev.step (f := fun k => spec_MovedIn.l0 k l now per 0 0 0) (fun k => by simp [spec_MovedIn.j0]) ?_
        refine ev_fold (F := fun k s i => spec_MovedIn.l0 k l now per s.1 s.2 i) (n := l.length) (st := mvSt l now per) (out := fun s => s) (Inv := MvInv) ?_ ?_ l.length 0 (0, 0) (by omega) ⟨by simp, by simp, by simp, by simp⟩
        · intro s _
          exact Ev.step (f := fun _ => some s) (fun k => by simp only [spec_MovedIn.l0]; rw [if_neg (by omega)]) (Ev.now s)
        · intro s i hi hI
          refine ⟨mvInv_step hf now per s i hi hI, fun r h => ?_⟩
          obtain ⟨i1, i2, i3, i4⟩ := hI
          obtain ⟨⟨f1, f2⟩, f3, f4⟩ := hf i hi
          have hnp : wrap64 (now - per) = now - per := wr_id (by omega) (by omega)
          by_cases g1 : (rd_T103 l i).f0 ≤ now - per
          · refine Ev.step (f := fun k => spec_MovedIn.j2 k l now per s.1 s.2 i true) (fun k => by simp only [spec_MovedIn.l0]; rw [if_pos (by omega), if_pos (by omega), hnp, if_pos g1]) ?_
            refine Ev.step (fun k => ?_) h
            simp only [spec_MovedIn.j2, mvSt]
            rw [if_pos trivial, if_neg (by omega), wr_succ hi (by omega)]
          · by_cases g2 : (rd_T103 l i).f0 > now
            · refine Ev.step (f := fun k => spec_MovedIn.j2 k l now per s.1 s.2 i true) (fun k => by simp only [spec_MovedIn.l0]; rw [if_pos (by omega), if_pos (by omega), hnp, if_neg g1, decide_eq_true g2]) ?_
              refine Ev.step (fun k => ?_) h
              simp only [spec_MovedIn.j2, mvSt]
              rw [if_pos trivial, if_neg (by omega), wr_succ hi (by omega)]
            · refine Ev.step (f := fun k => spec_MovedIn.j2 k l now per s.1 s.2 i false) (fun k => by simp only [spec_MovedIn.l0]; rw [if_pos (by omega), if_pos (by omega), hnp, if_neg g1, decide_eq_false g2]) ?_
              refine Ev.step (fun k => ?_) h
              simp only [spec_MovedIn.j2, mvSt]
              rw [if_neg (by decide), if_pos (by omega), if_pos (by omega), wr_succ hi (by omega), if_pos (show now - per < (rd_T103 l i).f0 ∧ (rd_T103 l i).f0 ≤ now from ⟨by omega, by omega⟩)]
              by_cases g3 : (rd_T103 l i).f1 > 0
              · rw [if_pos g3, wr_id (by omega) (by omega)]
                simp only [mx]
                rw [if_pos (by omega), if_neg (by omega), Int.add_zero]
              · rw [if_neg g3, wr_id (by omega) (by omega)]
                simp only [mx]
                rw [if_neg (by omega), Int.add_zero]
                by_cases g4 : (rd_T103 l i).f1 = 0
                · rw [g4]; simp
                · rw [if_pos (by omega)]; congr 1
      · rw [if_neg (fun h => h3 h.2.2), decide_eq_false h3]
        exact Ev.step (f := fun _ => some (0, 0)) (fun k => by simp [spec_MovedIn.j0]) (Ev.now _)
    · rw [if_neg (fun h => h2 h.2.1)]
      refine Ev.neg (fun h => h2 (of_decide_eq_true h)) ?_
      exact Ev.step (f := fun _ => some (0, 0)) (fun k => by simp [spec_MovedIn.j0]) (Ev.now _)
  · rw [if_neg (fun h => h1 h.1)]
    refine Ev.neg h1 ?_
    exact Ev.step (f := fun _ => some (0, 0)) (fun k => by simp [spec_MovedIn.j0]) (Ev.now _)
theorem movedIn_impl (l : List S103) (hl : l.length ≤ 1048576) (now per : Int) : Ev (fun k => impl_MovedIn.f k l now per) (movedIn l now per) := by
  unfold impl_MovedIn.f
  refine Ev.bind (mvOk_impl l hl) ?_
  unfold movedIn
  by_cases h1 : mvOk l = true
  · refine Ev.pos h1 ?_
    rw [tick_impl]
    refine Ev.bind0 rfl ?_
    by_cases h2 : 0 ≤ now ∧ now ≤ 1000000000
    · refine Ev.pos (decide_eq_true h2) ?_
      rw [in_impl]
      refine Ev.bind0 rfl ?_
      by_cases h3 : 0 ≤ per ∧ per ≤ 1000
      · rw [if_pos ⟨h1, h2, h3⟩, decide_eq_true h3]
        obtain ⟨_, hf⟩ := mvOk_facts h1
        refine Ev.step (f := fun k => impl_MovedIn.l0 k now per 0 0 l (l.length : Int) 0) (fun k => by simp [impl_MovedIn.j0]) ?_
        refine ev_fold (F := fun k s i => impl_MovedIn.l0 k now per s.1 s.2 l (l.length : Int) i) (n := l.length) (st := mvSt l now per) (out := fun s => s) (Inv := MvInv) ?_ ?_ l.length 0 (0, 0) (by omega) ⟨by simp, by simp, by simp, by simp⟩
        · intro s _
          exact Ev.step (f := fun _ => some s) (fun k => by simp only [impl_MovedIn.l0]; rw [if_neg (by omega)]) (Ev.now s)
        · intro s i hi hI
          refine ⟨mvInv_step hf now per s i hi hI, fun r h => Ev.step (fun k => ?_) h⟩
          obtain ⟨i1, i2, i3, i4⟩ := hI
          obtain ⟨⟨f1, f2⟩, f3, f4⟩ := hf i hi
          have hnp : wrap64 (now - per) = now - per := wr_id (by omega) (by omega)
          simp only [impl_MovedIn.l0, mvSt]
          rw [if_pos (by omega), if_pos (by omega), if_pos (by omega), hnp, wr_succ hi (by omega)]
          by_cases g1 : (rd_T103 l i).f0 > now - per
          · rw [if_pos g1]
            by_cases g2 : (rd_T103 l i).f0 ≤ now
            · have e1 : wrap64 (-(rd_T103 l i).f1) = -(rd_T103 l i).f1 := wr_id (by omega) (by omega)
              have m1 : 0 ≤ mx 0 (rd_T103 l i).f1 ∧ mx 0 (rd_T103 l i).f1 ≤ 1000 := by unfold mx; split <;> omega
              have m2 : 0 ≤ mx 0 (-(rd_T103 l i).f1) ∧ mx 0 (-(rd_T103 l i).f1) ≤ 1000 := by unfold mx; split <;> omega
              rw [if_pos g2, if_pos ⟨g1, g2⟩, e1, wr_id (by omega) (by omega), wr_id (by omega) (by omega)]
            · rw [if_neg g2, if_neg (fun h => g2 h.2)]
          · rw [if_neg g1, if_neg (fun h => g1 h.1)]
      · rw [if_neg (fun h => h3 h.2.2), decide_eq_false h3]
        exact Ev.step (f := fun _ => some (0, 0)) (fun k => by simp [impl_MovedIn.j0]) (Ev.now _)
    · rw [if_neg (fun h => h2 h.2.1)]
      refine Ev.neg (fun h => h2 (of_decide_eq_true h)) ?_
      exact Ev.step (f := fun _ => some (0, 0)) (fun k => by simp [impl_MovedIn.j0]) (Ev.now _)
  · rw [if_neg (fun h => h1 h.1)]
    refine Ev.neg h1 ?_
    exact Ev.step (f := fun _ => some (0, 0)) (fun k => by simp [impl_MovedIn.j0]) (Ev.now _)
end Go.Proofs.Ytfjjlipfjddaiaa.Base
/- The plain laws of UpBound and DownBound: dividing, one policy's bound, the bounds of all policies.
   Conditions: none. -/
namespace Go.Proofs.Ytfjjlipfjddaiaa.Base
open Go.RowKit Go.Proofs.YtfjjlipfjddaiaaW.PrintWords Go.Proofs.YtfjjlipfjddaiaaW.PrintMore Go.Proofs.Ytfjjlipfjddaiaa.Bo
theorem tdiv100 {x : Int} (h : 0 ≤ x) : Int.tdiv x 100 = x / 100 := Int.tdiv_eq_ediv_of_nonneg h
theorem tmod100 {x : Int} (h : 0 ≤ x) : Int.tmod x 100 = x % 100 := Int.tmod_eq_emod_of_nonneg h
theorem ceil_spec {x : Int} (h : 0 ≤ x) (h' : x ≤ 1000000000000) : spec_CeilDiv.f x 100 = some ((x + 99) / 100) := by
  unfold spec_CeilDiv.f
  rw [if_neg (by omega), if_neg (by omega), tdiv100 h, tmod100 h, wr_id (x := x / 100) (by omega) (by omega)]
  by_cases g : x % 100 > 0
  · rw [if_pos g, wr_id (by omega) (by omega)]; congr 1; omega
  · rw [if_neg g]; congr 1; omega
theorem ceil_impl {x : Int} (h : 0 ≤ x) (h' : x ≤ 1000000000000) : impl_CeilDiv.f x 100 = some ((x + 99) / 100) := by
  unfold impl_CeilDiv.f
  rw [if_neg (by omega), if_neg (by omega), tdiv100 h, tmod100 h, wr_id (x := x / 100) (by omega) (by omega)]
  by_cases g : x % 100 > 0
  · rw [if_pos g, wr_id (by omega) (by omega)]; congr 1; omega
  · rw [if_neg g]; congr 1; omega
theorem floor_spec {x : Int} (h : 0 ≤ x) (h' : x ≤ 1000000000000) : spec_FloorDiv.f x 100 = some (x / 100) := by
  unfold spec_FloorDiv.f
  rw [if_neg (by omega), if_neg (by omega), tdiv100 h, tmod100 h, wr_id (x := x / 100) (by omega) (by omega), if_neg (by omega)]
theorem floor_impl {x : Int} (h : 0 ≤ x) (h' : x ≤ 1000000000000) : impl_FloorDiv.f x 100 = some (x / 100) := by
  unfold impl_FloorDiv.f
  rw [if_neg (by omega), if_neg (by omega), tdiv100 h, tmod100 h, wr_id (x := x / 100) (by omega) (by omega), if_neg (by omega)]
/-- The count at a period's beginning. -/
def baseOf (l : List S103) (now count per : Int) : Int := mx 0 (count - (movedIn l now per).1 + (movedIn l now per).2)
theorem baseOf_bounds (l : List S103) (now count per : Int) (hc : 0 ≤ count ∧ count ≤ 1000) : 0 ≤ baseOf l now count per ∧ baseOf l now count per ≤ 201000 := by
  obtain ⟨h1, h2, h3, h4⟩ := movedIn_bounds l now per
  unfold baseOf mx
  split <;> omega
theorem baseOf_wrap (l : List S103) (now count per : Int) (hc : 0 ≤ count ∧ count ≤ 1000) : wrap64 ((wrap64 (count - (movedIn l now per).1)) + (movedIn l now per).2) = count - (movedIn l now per).1 + (movedIn l now per).2 := by
  obtain ⟨h1, h2, h3, h4⟩ := movedIn_bounds l now per
  rw [wr_id (x := count - (movedIn l now per).1) (by omega) (by omega), wr_id (by omega) (by omega)]
def upX (base kind value : Int) : Int := mn 1000 (if kind = 1 then base + (base * value + 99) / 100 else base + value)
def dnX (base kind value : Int) : Int := if kind = 1 then (mn base 1000 * mx 0 (100 - value)) / 100 else mx 0 (mn base 1000 - value)
theorem mul_bounds {a b A B : Int} (ha : 0 ≤ a) (hb : 0 ≤ b) (hA : a ≤ A) (hB : b ≤ B) : 0 ≤ a * b ∧ a * b ≤ A * B :=
  ⟨Int.mul_nonneg ha hb, Int.mul_le_mul hA hB hb (by omega)⟩
theorem upX_bounds {base kind value : Int} (hb : 0 ≤ base ∧ base ≤ 201000) (hv : 1 ≤ value ∧ value ≤ 1000) : 0 ≤ upX base kind value ∧ upX base kind value ≤ 1000 := by
  obtain ⟨p0, p1⟩ := mul_bounds hb.1 (show 0 ≤ value by omega) hb.2 hv.2
  unfold upX mn
  split <;> split <;> omega
theorem dnX_bounds {base kind value : Int} (hb : 0 ≤ base ∧ base ≤ 201000) (hv : 1 ≤ value ∧ value ≤ 1000) : 0 ≤ dnX base kind value ∧ dnX base kind value ≤ 1000 := by
  have m1 : 0 ≤ mn base 1000 ∧ mn base 1000 ≤ 1000 := by unfold mn; split <;> omega
  have m2 : 0 ≤ mx 0 (100 - value) ∧ mx 0 (100 - value) ≤ 100 := by unfold mx; split <;> omega
  obtain ⟨p0, p1⟩ := mul_bounds m1.1 m2.1 m1.2 m2.2
  unfold dnX
  split
  · omega
  · unfold mx; split <;> omega
theorem upX_impl {base kind value per : Int} (hb : 0 ≤ base ∧ base ≤ 201000) (hv : 1 ≤ value ∧ value ≤ 1000) : impl_UpBound_1.f base kind value per = some (upX base kind value) := by
  obtain ⟨p0, p1⟩ := mul_bounds hb.1 (show 0 ≤ value by omega) hb.2 hv.2
  unfold impl_UpBound_1.f upX
  by_cases g : kind = 1
  · rw [if_pos g, if_pos g, wr_id (x := base * value) (by omega) (by omega), ceil_impl p0 (by omega), Option.bind_some, wr_id (by omega) (by omega)]
  · rw [if_neg g, if_neg g, wr_id (by omega) (by omega)]
theorem dnX_impl {base kind value per : Int} (hb : 0 ≤ base ∧ base ≤ 201000) (hv : 1 ≤ value ∧ value ≤ 1000) : impl_DownBound_1.f base kind value per = some (dnX base kind value) := by
  have m1 : 0 ≤ mn base 1000 ∧ mn base 1000 ≤ 1000 := by unfold mn; split <;> omega
  have m2 : 0 ≤ mx 0 (100 - value) ∧ mx 0 (100 - value) ≤ 100 := by unfold mx; split <;> omega
  obtain ⟨p0, p1⟩ := mul_bounds m1.1 m2.1 m1.2 m2.2
  unfold impl_DownBound_1.f dnX
  by_cases g : kind = 1
  · rw [if_pos g, if_pos g, wr_id (x := 100 - value) (by omega) (by omega), wr_id (by omega) (by omega), floor_impl p0 (by omega)]; rfl
  · rw [if_neg g, if_neg g, wr_id (by omega) (by omega)]
/-- What the reference reckons for one policy, before it is cut at 1000. -/
theorem upX_raw {base value : Int} (hb : 0 ≤ base ∧ base ≤ 201000) (hv : 1 ≤ value ∧ value ≤ 1000) : spec_CeilDiv.f (wrap64 (base * (wrap64 (100 + value)))) 100 = some (base + (base * value + 99) / 100) := by
  obtain ⟨p0, p1⟩ := mul_bounds hb.1 (show 0 ≤ value by omega) hb.2 hv.2
  have e : base * (100 + value) = base * 100 + base * value := Int.mul_add ..
  rw [wr_id (x := 100 + value) (by omega) (by omega), e, wr_id (by omega) (by omega), ceil_spec (by omega) (by omega)]
  congr 1; omega
/-- The least and the greatest of the policies' bounds. -/
def lmSt (x : Int → Int → Int → Int) (ps : List S96) (l : List S103) (now count : Int) (s : Int × Int) (i : Nat) : Int × Int :=
  (mn s.1 (x (baseOf l now count (rd_T96 ps i).f2) (rd_T96 ps i).f0 (rd_T96 ps i).f1), mx s.2 (x (baseOf l now count (rd_T96 ps i).f2) (rd_T96 ps i).f0 (rd_T96 ps i).f1))
def lmOf (x : Int → Int → Int → Int) (ps : List S96) (l : List S103) (now count : Int) : Int × Int := (List.range' 0 ps.length).foldl (lmSt x ps l now count) (1000, 0)
def LmInv (s : Int × Int) (_ : Nat) : Prop := 0 ≤ s.1 ∧ s.1 ≤ 1000 ∧ 0 ≤ s.2 ∧ s.2 ≤ 1000
theorem lmInv_step {x : Int → Int → Int → Int} {s : Int × Int} {i : Nat} (ps : List S96) (l : List S103) (now count : Int) (hx : 0 ≤ x (baseOf l now count (rd_T96 ps i).f2) (rd_T96 ps i).f0 (rd_T96 ps i).f1 ∧ x (baseOf l now count (rd_T96 ps i).f2) (rd_T96 ps i).f0 (rd_T96 ps i).f1 ≤ 1000) (h : LmInv s i) : LmInv (lmSt x ps l now count s i) (i + 1) := by
  obtain ⟨h1, h2, h3, h4⟩ := h
  unfold LmInv lmSt mn mx
  refine ⟨?_, ?_, ?_, ?_⟩ <;> (simp only; split <;> omega)
theorem lmOf_bounds {x : Int → Int → Int → Int} (hx : ∀ b k v, (0 ≤ b ∧ b ≤ 201000) → (1 ≤ v ∧ v ≤ 1000) → 0 ≤ x b k v ∧ x b k v ≤ 1000) {ps : List S96} {sel win : Int} (hs : sideOk ps sel win = true) (l : List S103) (now count : Int) (hc : 0 ≤ count ∧ count ≤ 1000) : LmInv (lmOf x ps l now count) ps.length := by
  obtain ⟨_, _, _, hf⟩ := sideOk_facts hs
  exact fold_inv (n := ps.length) (st := lmSt x ps l now count) (Inv := LmInv) (fun s i hi hI => lmInv_step ps l now count (hx _ _ _ (baseOf_bounds l now count _ hc) (hf i hi).2.1) hI) ps.length 0 (1000, 0) (by omega) ⟨by simp, by simp, by simp, by simp⟩
def BdOk (ps : List S96) (sel win : Int) (l : List S103) (now count : Int) : Prop := sideOk ps sel win = true ∧ mvOk l = true ∧ (0 ≤ now ∧ now ≤ 1000000000) ∧ (0 ≤ count ∧ count ≤ 1000)
instance (ps : List S96) (sel win : Int) (l : List S103) (now count : Int) : Decidable (BdOk ps sel win l now count) := by unfold BdOk; infer_instance
def upBound (ps : List S96) (sel win : Int) (l : List S103) (now count : Int) : Int :=
  if BdOk ps sel win l now count then (if sel = 2 then count else if ps.length = 0 then 1000 else if sel = 0 then mx count (lmOf upX ps l now count).2 else mx count (lmOf upX ps l now count).1) else -1
def downBound (ps : List S96) (sel win : Int) (l : List S103) (now count : Int) : Int :=
  if BdOk ps sel win l now count then (if sel = 2 then count else if ps.length = 0 then 0 else if sel = 0 then mn count (lmOf dnX ps l now count).1 else mn count (lmOf dnX ps l now count).2) else -1
theorem upBound_facts {ps : List S96} {sel win : Int} {l : List S103} {now count : Int} (h : BdOk ps sel win l now count) : count ≤ upBound ps sel win l now count ∧ upBound ps sel win l now count ≤ 1000 ∧ (sel = 2 → upBound ps sel win l now count = count) := by
  have hb := lmOf_bounds (x := upX) (fun b k v h1 h2 => upX_bounds h1 h2) h.1 l now count h.2.2.2
  obtain ⟨b1, b2, b3, b4⟩ := hb
  obtain ⟨_, _, _, c1, c2⟩ := h
  unfold upBound
  rw [if_pos ⟨‹_›, ‹_›, ‹_›, c1, c2⟩]
  by_cases g : sel = 2
  · rw [if_pos g]; exact ⟨by omega, by omega, fun _ => rfl⟩
  · rw [if_neg g]
    refine ⟨?_, ?_, fun h => absurd h g⟩ <;> (split; omega; unfold mx; split <;> split <;> omega)
theorem downBound_facts {ps : List S96} {sel win : Int} {l : List S103} {now count : Int} (h : BdOk ps sel win l now count) : downBound ps sel win l now count ≤ count ∧ 0 ≤ downBound ps sel win l now count ∧ (sel = 2 → downBound ps sel win l now count = count) := by
  have hb := lmOf_bounds (x := dnX) (fun b k v h1 h2 => dnX_bounds h1 h2) h.1 l now count h.2.2.2
  obtain ⟨b1, b2, b3, b4⟩ := hb
  obtain ⟨_, _, _, c1, c2⟩ := h
  unfold downBound
  rw [if_pos ⟨‹_›, ‹_›, ‹_›, c1, c2⟩]
  by_cases g : sel = 2
  · rw [if_pos g]; exact ⟨by omega, by omega, fun _ => rfl⟩
  · rw [if_neg g]
    refine ⟨?_, ?_, fun h => absurd h g⟩ <;> (split; omega; unfold mn; split <;> split <;> omega)
end Go.Proofs.Ytfjjlipfjddaiaa.Base
/- UpBound of the program and of the reference are one plain function.
   Conditions: none. -/
namespace Go.Proofs.Ytfjjlipfjddaiaa.Base
open Go.RowKit Go.Proofs.YtfjjlipfjddaiaaW.PrintWords Go.Proofs.YtfjjlipfjddaiaaW.PrintMore Go.Proofs.Ytfjjlipfjddaiaa.Bo
theorem base_spec (l : List S103) (hl : l.length ≤ 1048576) (now count per k0 v0 : Int) (hc : 0 ≤ count ∧ count ≤ 1000) : Ev (fun k => spec_l06Base.f k k0 v0 per l now count) (baseOf l now count per) := by
  unfold spec_l06Base.f
  refine Ev.bind (movedIn_spec l hl now per) ?_
  simp only [baseOf_wrap l now count per hc]
  unfold baseOf
  generalize count - (movedIn l now per).1 + (movedIn l now per).2 = x
  by_cases h : x < 0
  · rw [show mx 0 x = 0 by unfold mx; rw [if_neg (by omega)]]; exact Ev.pos h (Ev.now _)
  · rw [show mx 0 x = x by unfold mx; split <;> omega]; exact Ev.neg h (Ev.now _)
theorem good_spec (ps : List S96) (sel win : Int) (l : List S103) (hl : l.length ≤ 1048576) (now count : Int) : Ev (fun k => spec_l06Good.f k ps sel win l now count) (decide (BdOk ps sel win l now count)) := by
  unfold spec_l06Good.f
  refine Ev.bind (sideOk_spec ps sel win) ?_
  by_cases h0 : sideOk ps sel win = true
  case neg => rw [show decide (BdOk ps sel win l now count) = false from decide_eq_false (fun h => h0 h.1)]; exact Ev.neg h0 (Ev.now _)
  refine Ev.pos h0 (Ev.bind (mvOk_spec l hl) ?_)
  by_cases h1 : mvOk l = true
  case neg => rw [show decide (BdOk ps sel win l now count) = false from decide_eq_false (fun h => h1 h.2.1)]; exact Ev.neg h1 (Ev.now _)
  refine Ev.pos h1 ?_
  rw [tick_spec, count_spec]
  refine Ev.bind0 rfl ?_
  by_cases h2 : 0 ≤ now ∧ now ≤ 1000000000
  case neg => rw [show decide (BdOk ps sel win l now count) = false from decide_eq_false (fun h => h2 h.2.2.1)]; exact Ev.neg (fun h => h2 (of_decide_eq_true h)) (Ev.now _)
  refine Ev.pos (decide_eq_true h2) (Ev.bind0 rfl ?_)
  rw [show decide (BdOk ps sel win l now count) = decide (0 ≤ count ∧ count ≤ 1000) from decide_eq_decide.2 ⟨fun h => h.2.2.2, fun h => ⟨h0, h1, h2, h⟩⟩]
  exact Ev.now _
theorem boundsUp_impl (ps : List S96) (sel win : Int) (hs : sideOk ps sel win = true) (l : List S103) (hl : l.length ≤ 1048576) (now count z : Int) (hc : 0 ≤ count ∧ count ≤ 1000) : Ev (fun k => impl_boundsUp.f k ps sel win l now count z) (lmOf upX ps l now count) := by
  unfold impl_boundsUp.f
  obtain ⟨hp, _, _, hf⟩ := sideOk_facts hs
  refine ev_fold (F := fun k s i => impl_boundsUp.l0 k l now count s.1 s.2 ps (ps.length : Int) i) (n := ps.length) (st := lmSt upX ps l now count) (out := fun s => s) (Inv := fun _ _ => True) ?_ ?_ ps.length 0 (1000, 0) (by omega) trivial
  · intro s _
    exact Ev.step (f := fun _ => some s) (fun k => by simp only [impl_boundsUp.l0]; rw [if_neg (by omega)]) (Ev.now s)
  · intro s i hi _
    refine ⟨trivial, fun r h => ?_⟩
    refine Ev.step (f := fun k => (impl_MovedIn.f k l now (rd_T96 ps i).f2).bind fun b => impl_boundsUp.l0 k l now count (lmSt upX ps l now count s i).1 (lmSt upX ps l now count s i).2 ps (ps.length : Int) ((i + 1 : Nat) : Int)) (fun k => ?_) (Ev.bind (movedIn_impl l hl now _) h)
    simp only [impl_boundsUp.l0]
    rw [if_pos (by omega), if_pos (by omega), if_pos (by omega), wr_succ hi (by omega)]
    cases hm : impl_MovedIn.f k l now (rd_T96 ps i).f2 with
    | none => rfl
    | some b =>
      obtain rfl : movedIn l now (rd_T96 ps i).f2 = b := Ev.unique (movedIn_impl l hl now _) (Ev.of (g := fun k => impl_MovedIn.f k l now (rd_T96 ps i).f2) (fun k => impl_MovedIn.mono _ _ _ k) hm)
      simp only [Option.bind_some]
      rw [baseOf_wrap l now count _ hc]
      have e := upX_impl (kind := (rd_T96 ps i).f0) (per := (rd_T96 ps i).f2) (baseOf_bounds l now count (rd_T96 ps i).f2 hc) (hf i hi).2.1
      unfold baseOf at e
      rw [e]
      rfl
theorem upBound_impl (ps : List S96) (hps : ps.length ≤ 1048576) (sel win : Int) (l : List S103) (hl : l.length ≤ 1048576) (now count : Int) : Ev (fun k => impl_UpBound.f k ps sel win l now count) (upBound ps sel win l now count) := by
  unfold impl_UpBound.f
  refine Ev.bind (sideOk_impl ps hps sel win) ?_
  by_cases h0 : sideOk ps sel win = true
  case neg => rw [show upBound ps sel win l now count = -1 from if_neg (fun h => h0 h.1)]; exact Ev.neg h0 (Ev.step (f := fun _ => some (-1)) (fun k => by simp [impl_UpBound.j0]) (Ev.now _))
  refine Ev.pos h0 (Ev.bind (mvOk_impl l hl) ?_)
  by_cases h1 : mvOk l = true
  case neg => rw [show upBound ps sel win l now count = -1 from if_neg (fun h => h1 h.2.1)]; exact Ev.neg h1 (Ev.step (f := fun _ => some (-1)) (fun k => by simp [impl_UpBound.j0]) (Ev.now _))
  refine Ev.pos h1 ?_
  rw [tick_impl, count_impl]
  refine Ev.bind0 rfl ?_
  by_cases h2 : 0 ≤ now ∧ now ≤ 1000000000
  case neg => rw [show upBound ps sel win l now count = -1 from if_neg (fun h => h2 h.2.2.1)]; exact Ev.neg (fun h => h2 (of_decide_eq_true h)) (Ev.step (f := fun _ => some (-1)) (fun k => by simp [impl_UpBound.j0]) (Ev.now _))
  refine Ev.pos (decide_eq_true h2) (Ev.bind0 rfl ?_)
  by_cases h3 : 0 ≤ count ∧ count ≤ 1000
  case neg => rw [show upBound ps sel win l now count = -1 from if_neg (fun h => h3 h.2.2.2), decide_eq_false h3]; exact Ev.step (f := fun _ => some (-1)) (fun k => by simp [impl_UpBound.j0]) (Ev.now _)
  rw [show upBound ps sel win l now count = _ from if_pos ⟨h0, h1, h2, h3⟩, decide_eq_true h3]
  refine Ev.step (f := fun k => (if sel = 2 then (some count) else (if (ps.length : Int) = 0 then (some 1000) else ((impl_boundsUp.f k ps sel win l now count 0).bind fun b => (if sel = 0 then (some (mx count b.2)) else (some (mx count b.1))))))) (fun k => by simp [impl_UpBound.j0]) ?_
  by_cases g : sel = 2
  · rw [if_pos g]; exact Ev.pos g (Ev.now _)
  · rw [if_neg g]
    refine Ev.neg g ?_
    by_cases g1 : ps.length = 0
    · rw [if_pos g1]; exact Ev.pos (by omega) (Ev.now _)
    · rw [if_neg g1]
      refine Ev.neg (by omega) (Ev.bind (boundsUp_impl ps sel win h0 l hl now count 0 h3) ?_)
      by_cases g2 : sel = 0
      · simp only [if_pos g2]; exact Ev.now _
      · simp only [if_neg g2]; exact Ev.now _
/-- The reference's bound so far. -/
def ubSoFar (sel : Int) (s : Int × Int) (i : Int) : Int := if i = 0 then -1 else if sel = 0 then s.2 else s.1
theorem upJ1 (k : Nat) (l : List S103) (now count b i x : Int) (ps : List S96) (sel win : Int) : spec_UpBound.j1 (k + 1) l now count b i x ps sel win = spec_UpBound.l0 k l now count (if b < 0 ∨ (sel = 0 ∧ mn 1000 x > b) ∨ (sel = 1 ∧ mn 1000 x < b) then mn 1000 x else b) (wrap64 (i + 1)) ps sel win := by
  simp only [spec_UpBound.j1]
  have e : ∀ y : Int, (if b < 0 then (spec_UpBound.l0 k l now count y (wrap64 (i + 1)) ps sel win) else (if sel = 0 then (if y > b then (spec_UpBound.l0 k l now count y (wrap64 (i + 1)) ps sel win) else (if sel = 1 then (if y < b then (spec_UpBound.l0 k l now count y (wrap64 (i + 1)) ps sel win) else (spec_UpBound.l0 k l now count b (wrap64 (i + 1)) ps sel win)) else (spec_UpBound.l0 k l now count b (wrap64 (i + 1)) ps sel win))) else (if sel = 1 then (if y < b then (spec_UpBound.l0 k l now count y (wrap64 (i + 1)) ps sel win) else (spec_UpBound.l0 k l now count b (wrap64 (i + 1)) ps sel win)) else (spec_UpBound.l0 k l now count b (wrap64 (i + 1)) ps sel win)))) = spec_UpBound.l0 k l now count (if b < 0 ∨ (sel = 0 ∧ y > b) ∨ (sel = 1 ∧ y < b) then y else b) (wrap64 (i + 1)) ps sel win := by
    intro y
    by_cases h1 : b < 0
    · rw [if_pos h1, if_pos (.inl h1)]
    · rw [if_neg h1]
      by_cases h2 : sel = 0
      · rw [if_pos h2]
        by_cases h3 : y > b
        · rw [if_pos h3, if_pos (.inr (.inl ⟨h2, h3⟩))]
        · rw [if_neg h3, if_neg (show ¬ sel = 1 by omega), if_neg (by omega)]
      · rw [if_neg h2]
        by_cases h3 : sel = 1
        · rw [if_pos h3]
          by_cases h4 : y < b
          · rw [if_pos h4, if_pos (.inr (.inr ⟨h3, h4⟩))]
          · rw [if_neg h4, if_neg (by omega)]
        · rw [if_neg h3, if_neg (by omega)]
  unfold mn
  by_cases hx : x > 1000
  · rw [if_pos hx, e 1000, if_neg (show ¬ x < 1000 by omega)]
  · by_cases hx' : x < 1000
    · rw [if_neg hx, e x, if_pos hx']
    · obtain rfl : x = 1000 := by omega
      rw [if_neg hx, e 1000, if_neg hx']
theorem upBound_spec (ps : List S96) (sel win : Int) (l : List S103) (hl : l.length ≤ 1048576) (now count : Int) : Ev (fun k => spec_UpBound.f k ps sel win l now count) (upBound ps sel win l now count) := by
  unfold spec_UpBound.f
  refine Ev.bind (good_spec ps sel win l hl now count) ?_
  by_cases h : BdOk ps sel win l now count
  case neg => rw [show upBound ps sel win l now count = -1 from if_neg h]; exact Ev.neg (fun g => h (of_decide_eq_true g)) (Ev.now _)
  refine Ev.pos (decide_eq_true h) ?_
  rw [show upBound ps sel win l now count = _ from if_pos h]
  by_cases g : sel = 2
  · rw [if_pos g]; exact Ev.pos g (Ev.now _)
  rw [if_neg g]
  refine Ev.neg g ?_
  by_cases g1 : ps.length = 0
  · rw [if_pos g1]; exact Ev.pos (by omega) (Ev.now _)
  rw [if_neg g1]
  refine Ev.neg (by omega) ?_
  obtain ⟨hs, hm, hn, hc⟩ := h
  obtain ⟨hp, hsel, _, hf⟩ := sideOk_facts hs
  have hE := ev_fold (F := fun k s i => spec_UpBound.l0 k l now count (ubSoFar sel s i) i ps sel win) (n := ps.length) (st := lmSt upX ps l now count)
    (out := fun s => if sel = 0 then mx count s.2 else mx count s.1) (Inv := fun s i => LmInv s i ∧ (i = 0 → s = (1000, 0))) ?_ ?_ ps.length 0 (1000, 0) (by omega) ⟨⟨by simp, by simp, by simp, by simp⟩, fun _ => rfl⟩
  · have e : ubSoFar sel (1000, 0) ((0 : Nat) : Int) = -1 := by simp [ubSoFar]
    simp only [e] at hE
    exact hE
  · intro s _
    refine Ev.step (f := fun _ => some (if sel = 0 then mx count s.2 else mx count s.1)) (fun k => ?_) (Ev.now _)
    simp only [spec_UpBound.l0, ubSoFar, if_neg (show ¬ (ps.length : Int) = 0 by omega), if_neg (show ¬ (ps.length : Int) < (ps.length : Int) by omega)]
    unfold mx
    by_cases g2 : sel = 0
    · simp only [if_pos g2]
      by_cases g3 : s.2 < count
      · rw [if_pos g3, if_neg (by omega)]
      · rw [if_neg g3]; split; rfl; congr 1; omega
    · simp only [if_neg g2]
      by_cases g3 : s.1 < count
      · rw [if_pos g3, if_neg (by omega)]
      · rw [if_neg g3]; split; rfl; congr 1; omega
  · intro s i hi hI
    obtain ⟨_, hv, _⟩ := hf i hi
    have hb := baseOf_bounds l now count (rd_T96 ps i).f2 hc
    have hx := upX_bounds (kind := (rd_T96 ps i).f0) hb hv
    refine ⟨⟨lmInv_step ps l now count hx hI.1, fun h => absurd h (Nat.succ_ne_zero i)⟩, fun r hr => ?_⟩
    obtain ⟨⟨i1, i2, i3, i4⟩, i5⟩ := hI
    refine Ev.step (f := fun k => (spec_l06Base.f k (rd_T96 ps i).f0 (rd_T96 ps i).f1 (rd_T96 ps i).f2 l now count).bind fun t => (if (rd_T96 ps i).f0 = 1 then ((spec_CeilDiv.f (wrap64 (t * (wrap64 (100 + ((rd_T96 ps i).f1))))) 100).bind fun u => (spec_UpBound.j1 k l now count (ubSoFar sel s i) i u ps sel win)) else (spec_UpBound.j1 k l now count (ubSoFar sel s i) i (wrap64 (t + ((rd_T96 ps i).f1))) ps sel win))) (fun k => by simp only [spec_UpBound.l0]; rw [if_pos (by omega), if_pos (by omega)]) ?_
    refine Ev.bind (base_spec l hl now count (rd_T96 ps i).f2 _ _ hc) ?_
    have key : ∀ x : Int, mn 1000 x = upX (baseOf l now count (rd_T96 ps i).f2) (rd_T96 ps i).f0 (rd_T96 ps i).f1 → Ev (fun k => spec_UpBound.j1 k l now count (ubSoFar sel s i) i x ps sel win) r := by
      intro x hxe
      refine Ev.step (fun k => ?_) hr
      rw [upJ1, wr_succ hi (by omega), hxe]
      congr 1
      unfold ubSoFar lmSt
      simp only
      rw [if_neg (show ¬ ((i + 1 : Nat) : Int) = 0 by omega)]
      generalize upX (baseOf l now count (rd_T96 ps i).f2) (rd_T96 ps i).f0 (rd_T96 ps i).f1 = y at *
      unfold mn mx
      by_cases j0 : (i : Int) = 0
      · obtain rfl := i5 (by omega)
        rw [if_pos j0, if_pos (by omega)]
        by_cases j1 : sel = 0
        · rw [if_pos j1]; split <;> omega
        · rw [if_neg j1]; split <;> omega
      · rw [if_neg j0]
        by_cases j1 : sel = 0
        · rw [if_pos j1, if_pos j1]; split <;> split <;> omega
        · rw [if_neg j1, if_neg j1]; split <;> split <;> omega
    by_cases j : (rd_T96 ps i).f0 = 1
    · refine Ev.pos j ?_
      rw [upX_raw hb hv]
      refine Ev.bind0 rfl (key _ ?_)
      unfold upX; rw [if_pos j]
    · refine Ev.neg j (key _ ?_)
      rw [wr_id (by omega) (by omega)]
      unfold upX; rw [if_neg j]
end Go.Proofs.Ytfjjlipfjddaiaa.Base
/- DownBound of the program and of the reference are one plain function.
   Conditions: none. -/
namespace Go.Proofs.Ytfjjlipfjddaiaa.Base
open Go.RowKit Go.Proofs.YtfjjlipfjddaiaaW.PrintWords Go.Proofs.YtfjjlipfjddaiaaW.PrintMore Go.Proofs.Ytfjjlipfjddaiaa.Bo
theorem boundsDown_impl (ps : List S96) (sel win : Int) (hs : sideOk ps sel win = true) (l : List S103) (hl : l.length ≤ 1048576) (now count z : Int) (hc : 0 ≤ count ∧ count ≤ 1000) : Ev (fun k => impl_boundsDown.f k ps sel win l now count z) (lmOf dnX ps l now count) := by
  unfold impl_boundsDown.f
  obtain ⟨hp, _, _, hf⟩ := sideOk_facts hs
  refine ev_fold (F := fun k s i => impl_boundsDown.l0 k l now count s.1 s.2 ps (ps.length : Int) i) (n := ps.length) (st := lmSt dnX ps l now count) (out := fun s => s) (Inv := fun _ _ => True) ?_ ?_ ps.length 0 (1000, 0) (by omega) trivial
  · intro s _
    exact Ev.step (f := fun _ => some s) (fun k => by simp only [impl_boundsDown.l0]; rw [if_neg (by omega)]) (Ev.now s)
  · intro s i hi _
    refine ⟨trivial, fun r h => ?_⟩
    refine Ev.step (f := fun k => (impl_MovedIn.f k l now (rd_T96 ps i).f2).bind fun b => impl_boundsDown.l0 k l now count (lmSt dnX ps l now count s i).1 (lmSt dnX ps l now count s i).2 ps (ps.length : Int) ((i + 1 : Nat) : Int)) (fun k => ?_) (Ev.bind (movedIn_impl l hl now _) h)
    simp only [impl_boundsDown.l0]
    rw [if_pos (by omega), if_pos (by omega), if_pos (by omega), wr_succ hi (by omega)]
    cases hm : impl_MovedIn.f k l now (rd_T96 ps i).f2 with
    | none => rfl
    | some b =>
      obtain rfl : movedIn l now (rd_T96 ps i).f2 = b := Ev.unique (movedIn_impl l hl now _) (Ev.of (g := fun k => impl_MovedIn.f k l now (rd_T96 ps i).f2) (fun k => impl_MovedIn.mono _ _ _ k) hm)
      simp only [Option.bind_some]
      rw [baseOf_wrap l now count _ hc]
      have e := dnX_impl (kind := (rd_T96 ps i).f0) (per := (rd_T96 ps i).f2) (baseOf_bounds l now count (rd_T96 ps i).f2 hc) (hf i hi).2.1
      unfold baseOf at e
      rw [e]
      rfl
theorem downBound_impl (ps : List S96) (hps : ps.length ≤ 1048576) (sel win : Int) (l : List S103) (hl : l.length ≤ 1048576) (now count : Int) : Ev (fun k => impl_DownBound.f k ps sel win l now count) (downBound ps sel win l now count) := by
  unfold impl_DownBound.f
  refine Ev.bind (sideOk_impl ps hps sel win) ?_
  by_cases h0 : sideOk ps sel win = true
  case neg => rw [show downBound ps sel win l now count = -1 from if_neg (fun h => h0 h.1)]; exact Ev.neg h0 (Ev.step (f := fun _ => some (-1)) (fun k => by simp [impl_DownBound.j0]) (Ev.now _))
  refine Ev.pos h0 (Ev.bind (mvOk_impl l hl) ?_)
  by_cases h1 : mvOk l = true
  case neg => rw [show downBound ps sel win l now count = -1 from if_neg (fun h => h1 h.2.1)]; exact Ev.neg h1 (Ev.step (f := fun _ => some (-1)) (fun k => by simp [impl_DownBound.j0]) (Ev.now _))
  refine Ev.pos h1 ?_
  rw [tick_impl, count_impl]
  refine Ev.bind0 rfl ?_
  by_cases h2 : 0 ≤ now ∧ now ≤ 1000000000
  case neg => rw [show downBound ps sel win l now count = -1 from if_neg (fun h => h2 h.2.2.1)]; exact Ev.neg (fun h => h2 (of_decide_eq_true h)) (Ev.step (f := fun _ => some (-1)) (fun k => by simp [impl_DownBound.j0]) (Ev.now _))
  refine Ev.pos (decide_eq_true h2) (Ev.bind0 rfl ?_)
  by_cases h3 : 0 ≤ count ∧ count ≤ 1000
  case neg => rw [show downBound ps sel win l now count = -1 from if_neg (fun h => h3 h.2.2.2), decide_eq_false h3]; exact Ev.step (f := fun _ => some (-1)) (fun k => by simp [impl_DownBound.j0]) (Ev.now _)
  rw [show downBound ps sel win l now count = _ from if_pos ⟨h0, h1, h2, h3⟩, decide_eq_true h3]
  refine Ev.step (f := fun k => (if sel = 2 then (some count) else (if (ps.length : Int) = 0 then (some 0) else ((impl_boundsDown.f k ps sel win l now count 0).bind fun b => (if sel = 0 then (some (mn count b.1)) else (some (mn count b.2))))))) (fun k => by simp [impl_DownBound.j0]) ?_
  by_cases g : sel = 2
  · rw [if_pos g]; exact Ev.pos g (Ev.now _)
  · rw [if_neg g]
    refine Ev.neg g ?_
    by_cases g1 : ps.length = 0
    · rw [if_pos g1]; exact Ev.pos (by omega) (Ev.now _)
    · rw [if_neg g1]
      refine Ev.neg (by omega) (Ev.bind (boundsDown_impl ps sel win h0 l hl now count 0 h3) ?_)
      by_cases g2 : sel = 0
      · simp only [if_pos g2]; exact Ev.now _
      · simp only [if_neg g2]; exact Ev.now _
/-- The reference's bound so far. -/
def dbSoFar (sel : Int) (s : Int × Int) (i : Int) : Int := if i = 0 then -1 else if sel = 0 then s.1 else s.2
theorem dnJ2 (k : Nat) (l : List S103) (now count b i x : Int) (ps : List S96) (sel win : Int) : spec_DownBound.j2 (k + 1) l now count b i x ps sel win = spec_DownBound.l0 k l now count (if b < 0 ∨ (sel = 0 ∧ mx 0 x < b) ∨ (sel = 1 ∧ mx 0 x > b) then mx 0 x else b) (wrap64 (i + 1)) ps sel win := by
  simp only [spec_DownBound.j2]
  have e : ∀ y : Int, (if b < 0 then (spec_DownBound.l0 k l now count y (wrap64 (i + 1)) ps sel win) else (if sel = 0 then (if y < b then (spec_DownBound.l0 k l now count y (wrap64 (i + 1)) ps sel win) else (if sel = 1 then (if y > b then (spec_DownBound.l0 k l now count y (wrap64 (i + 1)) ps sel win) else (spec_DownBound.l0 k l now count b (wrap64 (i + 1)) ps sel win)) else (spec_DownBound.l0 k l now count b (wrap64 (i + 1)) ps sel win))) else (if sel = 1 then (if y > b then (spec_DownBound.l0 k l now count y (wrap64 (i + 1)) ps sel win) else (spec_DownBound.l0 k l now count b (wrap64 (i + 1)) ps sel win)) else (spec_DownBound.l0 k l now count b (wrap64 (i + 1)) ps sel win)))) = spec_DownBound.l0 k l now count (if b < 0 ∨ (sel = 0 ∧ y < b) ∨ (sel = 1 ∧ y > b) then y else b) (wrap64 (i + 1)) ps sel win := by
    intro y
    by_cases h1 : b < 0
    · rw [if_pos h1, if_pos (.inl h1)]
    · rw [if_neg h1]
      by_cases h2 : sel = 0
      · rw [if_pos h2]
        by_cases h3 : y < b
        · rw [if_pos h3, if_pos (.inr (.inl ⟨h2, h3⟩))]
        · rw [if_neg h3, if_neg (show ¬ sel = 1 by omega), if_neg (by omega)]
      · rw [if_neg h2]
        by_cases h3 : sel = 1
        · rw [if_pos h3]
          by_cases h4 : y > b
          · rw [if_pos h4, if_pos (.inr (.inr ⟨h3, h4⟩))]
          · rw [if_neg h4, if_neg (by omega)]
        · rw [if_neg h3, if_neg (by omega)]
  unfold mx
  by_cases hx : x < 0
  · rw [if_pos hx, e 0, if_neg (show ¬ 0 < x by omega)]
  · by_cases hx' : 0 < x
    · rw [if_neg hx, e x, if_pos hx']
    · obtain rfl : x = 0 := by omega
      rw [if_neg hx, e 0, if_neg hx']
theorem downBound_spec (ps : List S96) (sel win : Int) (l : List S103) (hl : l.length ≤ 1048576) (now count : Int) : Ev (fun k => spec_DownBound.f k ps sel win l now count) (downBound ps sel win l now count) := by
  unfold spec_DownBound.f
  refine Ev.bind (good_spec ps sel win l hl now count) ?_
  by_cases h : BdOk ps sel win l now count
  case neg => rw [show downBound ps sel win l now count = -1 from if_neg h]; exact Ev.neg (fun g => h (of_decide_eq_true g)) (Ev.now _)
  refine Ev.pos (decide_eq_true h) ?_
  rw [show downBound ps sel win l now count = _ from if_pos h]
  by_cases g : sel = 2
  · rw [if_pos g]; exact Ev.pos g (Ev.now _)
  rw [if_neg g]
  refine Ev.neg g ?_
  by_cases g1 : ps.length = 0
  · rw [if_pos g1]; exact Ev.pos (by omega) (Ev.now _)
  rw [if_neg g1]
  refine Ev.neg (by omega) ?_
  obtain ⟨hs, hm, hn, hc⟩ := h
  obtain ⟨hp, hsel, _, hf⟩ := sideOk_facts hs
  have hE := ev_fold (F := fun k s i => spec_DownBound.l0 k l now count (dbSoFar sel s i) i ps sel win) (n := ps.length) (st := lmSt dnX ps l now count)
    (out := fun s => if sel = 0 then mn count s.1 else mn count s.2) (Inv := fun s i => LmInv s i ∧ (i = 0 → s = (1000, 0))) ?_ ?_ ps.length 0 (1000, 0) (by omega) ⟨⟨by simp, by simp, by simp, by simp⟩, fun _ => rfl⟩
  · have e : dbSoFar sel (1000, 0) ((0 : Nat) : Int) = -1 := by simp [dbSoFar]
    simp only [e] at hE
    exact hE
  · intro s _
    refine Ev.step (f := fun _ => some (if sel = 0 then mn count s.1 else mn count s.2)) (fun k => ?_) (Ev.now _)
    simp only [spec_DownBound.l0, dbSoFar, if_neg (show ¬ (ps.length : Int) = 0 by omega), if_neg (show ¬ (ps.length : Int) < (ps.length : Int) by omega)]
    unfold mn
    by_cases g2 : sel = 0
    · simp only [if_pos g2]
      by_cases g3 : s.1 < count
      · rw [if_pos g3, if_neg (by omega)]
      · rw [if_neg g3]; split; rfl; congr 1; omega
    · simp only [if_neg g2]
      by_cases g3 : s.2 < count
      · rw [if_pos g3, if_neg (by omega)]
      · rw [if_neg g3]; split; rfl; congr 1; omega
  · intro s i hi hI
    obtain ⟨_, hv, _⟩ := hf i hi
    have hb := baseOf_bounds l now count (rd_T96 ps i).f2 hc
    have hx := dnX_bounds (kind := (rd_T96 ps i).f0) hb hv
    refine ⟨⟨lmInv_step ps l now count hx hI.1, fun h => absurd h (Nat.succ_ne_zero i)⟩, fun r hr => ?_⟩
    obtain ⟨⟨i1, i2, i3, i4⟩, i5⟩ := hI
    have m1 : 0 ≤ mn (baseOf l now count (rd_T96 ps i).f2) 1000 ∧ mn (baseOf l now count (rd_T96 ps i).f2) 1000 ≤ 1000 := by unfold mn; split <;> omega
    refine Ev.step (f := fun k => (spec_l06Base.f k (rd_T96 ps i).f0 (rd_T96 ps i).f1 (rd_T96 ps i).f2 l now count).bind fun t => (if t > 1000 then (spec_DownBound.j1 k l now count (dbSoFar sel s i) i 1000 ps sel win (rd_T96 ps i).f0 (rd_T96 ps i).f1 (rd_T96 ps i).f2) else (spec_DownBound.j1 k l now count (dbSoFar sel s i) i t ps sel win (rd_T96 ps i).f0 (rd_T96 ps i).f1 (rd_T96 ps i).f2))) (fun k => by simp only [spec_DownBound.l0]; rw [if_pos (by omega), if_pos (by omega)]) ?_
    refine Ev.bind (base_spec l hl now count (rd_T96 ps i).f2 _ _ hc) ?_
    have key2 : ∀ x : Int, mx 0 x = dnX (baseOf l now count (rd_T96 ps i).f2) (rd_T96 ps i).f0 (rd_T96 ps i).f1 → Ev (fun k => spec_DownBound.j2 k l now count (dbSoFar sel s i) i x ps sel win) r := by
      intro x hxe
      refine Ev.step (fun k => ?_) hr
      rw [dnJ2, wr_succ hi (by omega), hxe]
      congr 1
      unfold dbSoFar lmSt
      simp only
      rw [if_neg (show ¬ ((i + 1 : Nat) : Int) = 0 by omega)]
      generalize dnX (baseOf l now count (rd_T96 ps i).f2) (rd_T96 ps i).f0 (rd_T96 ps i).f1 = y at *
      unfold mn mx
      by_cases j0 : (i : Int) = 0
      · obtain rfl := i5 (by omega)
        rw [if_pos j0, if_pos (by omega)]
        by_cases j1 : sel = 0
        · rw [if_pos j1]; split <;> omega
        · rw [if_neg j1]; split <;> omega
      · rw [if_neg j0]
        by_cases j1 : sel = 0
        · rw [if_pos j1, if_pos j1]; split <;> split <;> omega
        · rw [if_neg j1, if_neg j1]; split <;> split <;> omega
    have key : Ev (fun k => spec_DownBound.j1 k l now count (dbSoFar sel s i) i (mn (baseOf l now count (rd_T96 ps i).f2) 1000) ps sel win (rd_T96 ps i).f0 (rd_T96 ps i).f1 (rd_T96 ps i).f2) r := by
      have w1 : wrap64 (100 - (rd_T96 ps i).f1) = 100 - (rd_T96 ps i).f1 := wr_id (by omega) (by omega)
      by_cases j : (rd_T96 ps i).f0 = 1
      · by_cases j2 : 100 - (rd_T96 ps i).f1 < 0
        · refine Ev.step (f := fun k => spec_DownBound.j2 k l now count (dbSoFar sel s i) i 0 ps sel win) (fun k => ?_) (key2 0 ?_)
          · simp only [spec_DownBound.j1, w1]
            rw [if_pos j, if_pos j2, Int.mul_zero, wr_id (by omega) (by omega), floor_spec (by omega) (by omega)]; rfl
          · unfold dnX; rw [if_pos j, show mx 0 (100 - (rd_T96 ps i).f1) = 0 by unfold mx; rw [if_neg (by omega)], Int.mul_zero]; rfl
        · obtain ⟨p0, p1⟩ := mul_bounds m1.1 (show 0 ≤ 100 - (rd_T96 ps i).f1 by omega) m1.2 (show 100 - (rd_T96 ps i).f1 ≤ 100 by omega)
          refine Ev.step (f := fun k => spec_DownBound.j2 k l now count (dbSoFar sel s i) i ((mn (baseOf l now count (rd_T96 ps i).f2) 1000 * (100 - (rd_T96 ps i).f1)) / 100) ps sel win) (fun k => ?_) (key2 _ ?_)
          · simp only [spec_DownBound.j1, w1]
            rw [if_pos j, if_neg j2, wr_id (by omega) (by omega), floor_spec p0 (by omega)]; rfl
          · have e : mx 0 (100 - (rd_T96 ps i).f1) = 100 - (rd_T96 ps i).f1 := by unfold mx; split <;> omega
            unfold dnX; rw [if_pos j, e]
            generalize mn (baseOf l now count (rd_T96 ps i).f2) 1000 * (100 - (rd_T96 ps i).f1) = p at *
            unfold mx; split <;> omega
      · refine Ev.step (f := fun k => spec_DownBound.j2 k l now count (dbSoFar sel s i) i (mn (baseOf l now count (rd_T96 ps i).f2) 1000 - (rd_T96 ps i).f1) ps sel win) (fun k => ?_) (key2 _ ?_)
        · simp only [spec_DownBound.j1]
          rw [if_neg j, wr_id (by omega) (by omega)]
        · unfold dnX; rw [if_neg j]
    by_cases c : baseOf l now count (rd_T96 ps i).f2 > 1000
    · refine Ev.pos c ?_
      rw [show mn (baseOf l now count (rd_T96 ps i).f2) 1000 = 1000 by unfold mn; rw [if_pos (by omega)]] at key
      exact key
    · refine Ev.neg c ?_
      rw [show mn (baseOf l now count (rd_T96 ps i).f2) 1000 = baseOf l now count (rd_T96 ps i).f2 by unfold mn; rw [if_neg (by omega)]] at key
      exact key
end Go.Proofs.Ytfjjlipfjddaiaa.Base
/- LimitWant of the program and of the reference are one plain function.
   Conditions: none. -/
namespace Go.Proofs.Ytfjjlipfjddaiaa.Base
open Go.RowKit Go.Proofs.YtfjjlipfjddaiaaW.PrintWords Go.Proofs.YtfjjlipfjddaiaaW.PrintMore Go.Proofs.Ytfjjlipfjddaiaa.Bo
def cutOf (x lo hi : Int) : Int := if x < lo then lo else if x > hi then hi else x
theorem cut_spec (x lo hi : Int) : spec_l06Cut.f x lo hi = some (cutOf x lo hi) := by
  unfold spec_l06Cut.f cutOf
  split
  · rfl
  · split <;> rfl
def LwOk (ul : List S96) (us uw : Int) (dl : List S96) (ds dw m n : Int) (l : List S103) (now count want : Int) : Prop :=
  behaveOk ul us uw dl ds dw m n = true ∧ mvOk l = true ∧ (0 ≤ now ∧ now ≤ 1000000000) ∧ (0 ≤ count ∧ count ≤ 1000) ∧ (0 ≤ want ∧ want ≤ 1000)
instance (ul : List S96) (us uw : Int) (dl : List S96) (ds dw m n : Int) (l : List S103) (now count want : Int) : Decidable (LwOk ul us uw dl ds dw m n l now count want) := by unfold LwOk; infer_instance
def limitWant (ul : List S96) (us uw : Int) (dl : List S96) (ds dw m n : Int) (l : List S103) (now count want : Int) : Int :=
  if LwOk ul us uw dl ds dw m n l now count want then cutOf (cutOf want (downBound dl ds dw l now count) (upBound ul us uw l now count)) m n else -1
theorem limitWant_spec (ul : List S96) (us uw : Int) (dl : List S96) (ds dw m n : Int) (l : List S103) (hl : l.length ≤ 1048576) (now count want : Int) : Ev (fun k => spec_LimitWant.f k ul us uw dl ds dw m n l now count want) (limitWant ul us uw dl ds dw m n l now count want) := by
  unfold spec_LimitWant.f
  refine Ev.bind (behaveOk_spec ul us uw dl ds dw m n) ?_
  by_cases h0 : behaveOk ul us uw dl ds dw m n = true
  case neg =>
    rw [show limitWant ul us uw dl ds dw m n l now count want = -1 from if_neg (fun h => h0 h.1)]
    exact Ev.neg h0 (Ev.step (f := fun _ => some (-1)) (fun k => by simp [spec_LimitWant.j0]) (Ev.now _))
  refine Ev.pos h0 (Ev.bind (mvOk_spec l hl) ?_)
  by_cases h1 : mvOk l = true
  case neg =>
    rw [show limitWant ul us uw dl ds dw m n l now count want = -1 from if_neg (fun h => h1 h.2.1)]
    exact Ev.neg h1 (Ev.step (f := fun _ => some (-1)) (fun k => by simp [spec_LimitWant.j0]) (Ev.now _))
  refine Ev.pos h1 ?_
  rw [tick_spec, count_spec, count_spec]
  refine Ev.bind0 rfl ?_
  by_cases h2 : 0 ≤ now ∧ now ≤ 1000000000
  case neg =>
    rw [show limitWant ul us uw dl ds dw m n l now count want = -1 from if_neg (fun h => h2 h.2.2.1)]
    exact Ev.neg (fun h => h2 (of_decide_eq_true h)) (Ev.step (f := fun _ => some (-1)) (fun k => by simp [spec_LimitWant.j0]) (Ev.now _))
  refine Ev.pos (decide_eq_true h2) (Ev.bind0 rfl ?_)
  by_cases h3 : 0 ≤ count ∧ count ≤ 1000
  case neg =>
    rw [show limitWant ul us uw dl ds dw m n l now count want = -1 from if_neg (fun h => h3 h.2.2.2.1)]
    exact Ev.neg (fun h => h3 (of_decide_eq_true h)) (Ev.step (f := fun _ => some (-1)) (fun k => by simp [spec_LimitWant.j0]) (Ev.now _))
  refine Ev.pos (decide_eq_true h3) (Ev.bind0 rfl ?_)
  by_cases h4 : 0 ≤ want ∧ want ≤ 1000
  case neg =>
    rw [show limitWant ul us uw dl ds dw m n l now count want = -1 from if_neg (fun h => h4 h.2.2.2.2), decide_eq_false h4]
    exact Ev.step (f := fun _ => some (-1)) (fun k => by simp [spec_LimitWant.j0]) (Ev.now _)
  rw [show limitWant ul us uw dl ds dw m n l now count want = _ from if_pos ⟨h0, h1, h2, h3, h4⟩, decide_eq_true h4]
  refine Ev.step (f := fun k => (spec_DownBound.f k dl ds dw l now count).bind fun t => ((spec_UpBound.f k ul us uw l now count).bind fun u => ((spec_l06Cut.f want t u).bind fun v => ((spec_l06Cut.f v m n).bind fun x => (some x))))) (fun k => by simp [spec_LimitWant.j0]) ?_
  refine Ev.bind (downBound_spec dl ds dw l hl now count) (Ev.bind (upBound_spec ul us uw l hl now count) ?_)
  simp only [cut_spec, Option.bind_some]
  exact Ev.now _
theorem limitWant_impl (ul : List S96) (hul : ul.length ≤ 1048576) (us uw : Int) (dl : List S96) (hdl : dl.length ≤ 1048576) (ds dw m n : Int) (l : List S103) (hl : l.length ≤ 1048576) (now count want : Int) : Ev (fun k => impl_LimitWant.f k ul us uw dl ds dw m n l now count want) (limitWant ul us uw dl ds dw m n l now count want) := by
  unfold impl_LimitWant.f
  refine Ev.bind (behaveOk_impl ul hul us uw dl hdl ds dw m n) ?_
  by_cases h0 : behaveOk ul us uw dl ds dw m n = true
  case neg =>
    rw [show limitWant ul us uw dl ds dw m n l now count want = -1 from if_neg (fun h => h0 h.1)]
    exact Ev.neg h0 (Ev.step (f := fun _ => some (-1)) (fun k => by simp [impl_LimitWant.j0]) (Ev.now _))
  refine Ev.pos h0 ?_
  rw [count_impl]
  refine Ev.bind0 rfl ?_
  by_cases h4 : 0 ≤ want ∧ want ≤ 1000
  case neg =>
    rw [show limitWant ul us uw dl ds dw m n l now count want = -1 from if_neg (fun h => h4 h.2.2.2.2), decide_eq_false h4]
    exact Ev.step (f := fun _ => some (-1)) (fun k => by simp [impl_LimitWant.j0]) (Ev.now _)
  rw [decide_eq_true h4]
  refine Ev.step (f := fun k => (impl_UpBound.f k ul us uw l now count).bind fun t => ((impl_DownBound.f k dl ds dw l now count).bind fun u => (if t < 0 then (some (-1)) else (if u < 0 then (some (-1)) else (some (mn (mx (mn (mx want u) t) m) n)))))) (fun k => by simp [impl_LimitWant.j0]) ?_
  refine Ev.bind (upBound_impl ul hul us uw l hl now count) (Ev.bind (downBound_impl dl hdl ds dw l hl now count) ?_)
  obtain ⟨hu, hd, m0, mn0, n0⟩ := behaveOk_facts h0
  by_cases h : mvOk l = true ∧ (0 ≤ now ∧ now ≤ 1000000000) ∧ (0 ≤ count ∧ count ≤ 1000)
  · have bu : BdOk ul us uw l now count := ⟨hu, h⟩
    have bd : BdOk dl ds dw l now count := ⟨hd, h⟩
    obtain ⟨u1, u2, _⟩ := upBound_facts bu
    obtain ⟨d1, d2, _⟩ := downBound_facts bd
    obtain ⟨h1, h2, h3⟩ := h
    rw [show limitWant ul us uw dl ds dw m n l now count want = _ from if_pos ⟨h0, h1, h2, h3, h4⟩]
    generalize upBound ul us uw l now count = u at *
    generalize downBound dl ds dw l now count = d at *
    refine Ev.neg (by omega) (Ev.neg (by omega) ?_)
    have e : cutOf (cutOf want d u) m n = mn (mx (mn (mx want d) u) m) n := by
      have e1 : cutOf want d u = mn (mx want d) u := by unfold cutOf mn mx; repeat' split; all_goals omega
      rw [e1]
      generalize mn (mx want d) u = y
      unfold cutOf mn mx; repeat' split; all_goals omega
    rw [e]
    exact Ev.now _
  · rw [show limitWant ul us uw dl ds dw m n l now count want = -1 from if_neg (fun g => h ⟨g.2.1, g.2.2.1, g.2.2.2.1⟩), show upBound ul us uw l now count = -1 from if_neg (fun g => h g.2)]
    exact Ev.pos (by omega) (Ev.now _)
end Go.Proofs.Ytfjjlipfjddaiaa.Base
/- NotesOk of the program and of the reference are one plain test, and what it tells.
   Conditions: none. -/
namespace Go.Proofs.Ytfjjlipfjddaiaa.Base
open Go.RowKit Go.Proofs.YtfjjlipfjddaiaaW.PrintWords Go.Proofs.YtfjjlipfjddaiaaW.PrintMore Go.Proofs.Ytfjjlipfjddaiaa.Bo
def ntP (l : List S109) (i : Nat) : Bool := decide ((0 ≤ (rd_T109 l i).f0 ∧ (rd_T109 l i).f0 ≤ 1000000000) ∧ (0 ≤ (rd_T109 l i).f1 ∧ (rd_T109 l i).f1 ≤ 1000) ∧ (0 < i → (rd_T109 l ((i - 1 : Nat) : Int)).f0 ≤ (rd_T109 l i).f0))
def ntOk (l : List S109) : Bool := (List.range' 0 l.length).all (ntP l) && decide (l.length ≤ 200)
theorem ntP_ite {α : Type} (l : List S109) (i : Nat) (a b : α) : (if ntP l i = true then a else b) = if decide (0 ≤ (rd_T109 l i).f0 ∧ (rd_T109 l i).f0 ≤ 1000000000) = true then (if decide (0 ≤ (rd_T109 l i).f1 ∧ (rd_T109 l i).f1 ≤ 1000) = true then (if (i : Int) > 0 then (if (rd_T109 l ((i - 1 : Nat) : Int)).f0 > (rd_T109 l i).f0 then b else a) else a) else b) else b := by
  unfold ntP
  by_cases h1 : 0 ≤ (rd_T109 l i).f0 ∧ (rd_T109 l i).f0 ≤ 1000000000
  · by_cases h2 : 0 ≤ (rd_T109 l i).f1 ∧ (rd_T109 l i).f1 ≤ 1000
    · by_cases h3 : 0 < i
      · by_cases h4 : (rd_T109 l ((i - 1 : Nat) : Int)).f0 ≤ (rd_T109 l i).f0
        · have h5 : ¬ (rd_T109 l ((i - 1 : Nat) : Int)).f0 > (rd_T109 l i).f0 := by omega
          have h6 : (i : Int) > 0 := by omega
          rw [if_pos (decide_eq_true ⟨h1, h2, fun _ => h4⟩), if_pos (decide_eq_true h1), if_pos (decide_eq_true h2), if_pos h6, if_neg h5]
        · have h5 : (rd_T109 l ((i - 1 : Nat) : Int)).f0 > (rd_T109 l i).f0 := by omega
          have h6 : (i : Int) > 0 := by omega
          rw [if_neg (by intro h; exact h4 ((of_decide_eq_true h).2.2 h3)), if_pos (decide_eq_true h1), if_pos (decide_eq_true h2), if_pos h6, if_pos h5]
      · have h6 : ¬ (i : Int) > 0 := by omega
        rw [if_pos (decide_eq_true ⟨h1, h2, fun h => absurd h h3⟩), if_pos (decide_eq_true h1), if_pos (decide_eq_true h2), if_neg h6]
    · rw [if_neg (by intro h; exact h2 (of_decide_eq_true h).2.1), if_pos (decide_eq_true h1), if_neg (by intro h; exact h2 (of_decide_eq_true h))]
  · rw [if_neg (by intro h; exact h1 (of_decide_eq_true h).1), if_neg (by intro h; exact h1 (of_decide_eq_true h))]
theorem ntOk_spec (l : List S109) (hl : l.length ≤ 1048576) : Ev (fun k => spec_NotesOk.f k l) (ntOk l) := by
  unfold spec_NotesOk.f ntOk
  by_cases h : (l.length : Int) > 200
  · rw [decide_eq_false (by omega), Bool.and_false]
    exact Ev.pos h (Ev.now false)
  · rw [decide_eq_true (by omega)]
    refine Ev.neg h (ev_all1 (F := fun k i => spec_NotesOk.l0 k l i) (Ev.step (f := fun _ => some true) (fun k => by simp only [spec_NotesOk.l0]; rw [if_neg (by omega)]) (Ev.now true)) ?_)
    intro i k hi
    simp only [spec_NotesOk.l0, tick_spec, count_spec, Option.bind_some]
    rw [if_pos (by omega), if_pos (by omega), wr_succ hi (by omega), ntP_ite]
    by_cases hp : (i : Int) > 0
    · rw [wr_pred (by omega) (by omega), if_pos (show (0 : Int) ≤ ((i - 1 : Nat) : Int) by omega), if_pos (show ((i - 1 : Nat) : Int) < (l.length : Int) by omega)]
    · simp only [if_neg hp]
theorem ntOk_impl (l : List S109) (hl : l.length ≤ 1048576) : Ev (fun k => impl_NotesOk.f k l) (ntOk l) := by
  unfold impl_NotesOk.f ntOk
  refine ev_all1 (F := fun k i => impl_NotesOk.l0 k l l (l.length : Int) i) (Ev.step (f := fun _ => some (decide (l.length ≤ 200))) (fun k => by simp only [impl_NotesOk.l0]; rw [if_neg (by omega)]; congr 1; exact decide_eq_decide.2 (by omega)) (Ev.now _)) ?_
  intro i k hi
  simp only [impl_NotesOk.l0, tick_impl, count_impl, Option.bind_some]
  rw [if_pos (by omega), if_pos (by omega), if_pos (by omega), wr_succ hi (by omega), ntP_ite]
  by_cases hp : (i : Int) > 0
  · rw [wr_pred (by omega) (by omega), if_pos (show (0 : Int) ≤ ((i - 1 : Nat) : Int) by omega), if_pos (show ((i - 1 : Nat) : Int) < (l.length : Int) by omega)]
  · simp only [if_neg hp]
/-- What NotesOk tells. -/
theorem ntOk_facts {l : List S109} (h : ntOk l = true) : l.length ≤ 200 ∧ ∀ i : Nat, i < l.length → (0 ≤ (rd_T109 l i).f0 ∧ (rd_T109 l i).f0 ≤ 1000000000) ∧ 0 ≤ (rd_T109 l i).f1 ∧ (rd_T109 l i).f1 ≤ 1000 := by
  unfold ntOk at h
  rw [Bool.and_eq_true, List.all_eq_true] at h
  refine ⟨of_decide_eq_true h.2, fun i hi => ?_⟩
  have := of_decide_eq_true (h.1 i (by rw [List.mem_range'_1]; omega))
  exact ⟨this.1, this.2.1⟩
end Go.Proofs.Ytfjjlipfjddaiaa.Base
/- Steady of the program and of the reference are one plain function.
   Conditions: none. -/
namespace Go.Proofs.Ytfjjlipfjddaiaa.Base
open Go.RowKit Go.Proofs.YtfjjlipfjddaiaaW.PrintWords Go.Proofs.YtfjjlipfjddaiaaW.PrintMore Go.Proofs.Ytfjjlipfjddaiaa.Bo
def stSt (l : List S109) (now uw dw : Int) (s : Int × Int) (i : Nat) : Int × Int :=
  if (rd_T109 l i).f0 > now then s else
    ((if (rd_T109 l i).f0 > now - uw then mn s.1 (rd_T109 l i).f1 else s.1), (if (rd_T109 l i).f0 > now - dw then mx s.2 (rd_T109 l i).f1 else s.2))
def stFin (c : Int) (s : Int × Int) : Int := if c < s.1 then s.1 else if c > s.2 then s.2 else c
def StOk (ul : List S96) (us uw : Int) (dl : List S96) (ds dw m n : Int) (l : List S109) (now count want : Int) : Prop :=
  behaveOk ul us uw dl ds dw m n = true ∧ ntOk l = true ∧ (0 ≤ now ∧ now ≤ 1000000000) ∧ (0 ≤ count ∧ count ≤ 1000) ∧ (0 ≤ want ∧ want ≤ 1000)
instance (ul : List S96) (us uw : Int) (dl : List S96) (ds dw m n : Int) (l : List S109) (now count want : Int) : Decidable (StOk ul us uw dl ds dw m n l now count want) := by unfold StOk; infer_instance
def steady (ul : List S96) (us uw : Int) (dl : List S96) (ds dw m n : Int) (l : List S109) (now count want : Int) : Int :=
  if StOk ul us uw dl ds dw m n l now count want then stFin count ((List.range' 0 l.length).foldl (stSt l now uw dw) (want, want)) else -1
def StInv (want : Int) (s : Int × Int) (_ : Nat) : Prop := 0 ≤ s.1 ∧ s.1 ≤ want ∧ want ≤ s.2 ∧ s.2 ≤ 1000
theorem stInv_step {l : List S109} (hf : ∀ i : Nat, i < l.length → (0 ≤ (rd_T109 l i).f0 ∧ (rd_T109 l i).f0 ≤ 1000000000) ∧ 0 ≤ (rd_T109 l i).f1 ∧ (rd_T109 l i).f1 ≤ 1000) (now uw dw want : Int) (s : Int × Int) (i : Nat) (hi : i < l.length) (h : StInv want s i) : StInv want (stSt l now uw dw s i) (i + 1) := by
  obtain ⟨h1, h2, h3, h4⟩ := h
  obtain ⟨_, f1, f2⟩ := hf i hi
  unfold StInv stSt
  split
  · exact ⟨h1, h2, h3, h4⟩
  · simp only [mn, mx]
    refine ⟨?_, ?_, ?_, ?_⟩ <;> (split <;> first | omega | (split <;> omega))
/-- What a stabilized count is. -/
theorem steady_facts {ul : List S96} {us uw : Int} {dl : List S96} {ds dw m n : Int} {l : List S109} {now count want : Int} (h : StOk ul us uw dl ds dw m n l now count want) :
    (∃ lo hi, 0 ≤ lo ∧ lo ≤ want ∧ want ≤ hi ∧ hi ≤ 1000 ∧ steady ul us uw dl ds dw m n l now count want = stFin count (lo, hi)) := by
  have hI := fold_inv (n := l.length) (st := stSt l now uw dw) (Inv := StInv want) (fun s i hi hI => stInv_step (ntOk_facts h.2.1).2 now uw dw want s i hi hI) l.length 0 (want, want) (by omega) ⟨h.2.2.2.2.1, Int.le_refl _, Int.le_refl _, h.2.2.2.2.2⟩
  obtain ⟨h1, h2, h3, h4⟩ := hI
  exact ⟨_, _, h1, h2, h3, h4, by unfold steady; rw [if_pos h]⟩
theorem stFin_range {c want lo hi : Int} (h1 : lo ≤ want) (h2 : want ≤ hi) : (c ≤ stFin c (lo, hi) ∧ stFin c (lo, hi) ≤ want) ∨ (want ≤ stFin c (lo, hi) ∧ stFin c (lo, hi) ≤ c) := by
  unfold stFin
  simp only
  split
  · omega
  · split <;> omega
theorem steady_range (ul : List S96) (us uw : Int) (dl : List S96) (ds dw m n : Int) (l : List S109) (now count want : Int) : steady ul us uw dl ds dw m n l now count want = -1 ∨ (StOk ul us uw dl ds dw m n l now count want ∧ 0 ≤ steady ul us uw dl ds dw m n l now count want ∧ steady ul us uw dl ds dw m n l now count want ≤ 1000) := by
  by_cases h : StOk ul us uw dl ds dw m n l now count want
  · right
    obtain ⟨lo, hi, _, g1, g2, _, e⟩ := steady_facts h
    have := stFin_range (c := count) g1 g2
    rw [e]
    obtain ⟨_, _, _, ⟨c1, c2⟩, w1, w2⟩ := h
    refine ⟨⟨‹_›, ‹_›, ‹_›, ⟨c1, c2⟩, w1, w2⟩, ?_, ?_⟩ <;> rcases this with this | this <;> omega
  · left; unfold steady; rw [if_neg h]
/-- Without windows it is the count that is wanted. -/
theorem steady_none (ul : List S96) (us : Int) (dl : List S96) (ds m n : Int) (l : List S109) (now count want : Int) (h : StOk ul us 0 dl ds 0 m n l now count want) : steady ul us 0 dl ds 0 m n l now count want = want := by
  unfold steady
  rw [if_pos h]
  have e : (List.range' 0 l.length).foldl (stSt l now 0 0) (want, want) = (want, want) := by
    have := fold_inv (n := l.length) (st := stSt l now 0 0) (Inv := fun s _ => s = (want, want)) (fun s i _ hI => by
      subst hI
      unfold stSt
      by_cases g : (rd_T109 l i).f0 > now
      · rw [if_pos g]
      · rw [if_neg g, if_neg (by omega), if_neg (by omega)]) l.length 0 (want, want) (by omega) rfl
    exact this
  rw [e]
  unfold stFin
  simp only
  split
  · rfl
  · split <;> omega
theorem steady_spec (ul : List S96) (us uw : Int) (dl : List S96) (ds dw m n : Int) (l : List S109) (hl : l.length ≤ 1048576) (now count want : Int) : Ev (fun k => spec_Steady.f k ul us uw dl ds dw m n l now count want) (steady ul us uw dl ds dw m n l now count want) := by
  unfold spec_Steady.f
  refine Ev.bind (behaveOk_spec ul us uw dl ds dw m n) ?_
  by_cases h0 : behaveOk ul us uw dl ds dw m n = true
  case neg =>
    rw [show steady ul us uw dl ds dw m n l now count want = -1 from if_neg (fun h => h0 h.1)]
    exact Ev.neg h0 (Ev.step (f := fun _ => some (-1)) (fun k => by simp [spec_Steady.j0]) (Ev.now _))
  refine Ev.pos h0 (Ev.bind (ntOk_spec l hl) ?_)
  by_cases h1 : ntOk l = true
  case neg =>
    rw [show steady ul us uw dl ds dw m n l now count want = -1 from if_neg (fun h => h1 h.2.1)]
    exact Ev.neg h1 (Ev.step (f := fun _ => some (-1)) (fun k => by simp [spec_Steady.j0]) (Ev.now _))
  refine Ev.pos h1 ?_
  rw [tick_spec, count_spec, count_spec]
  refine Ev.bind0 rfl ?_
  by_cases h2 : 0 ≤ now ∧ now ≤ 1000000000
  case neg =>
    rw [show steady ul us uw dl ds dw m n l now count want = -1 from if_neg (fun h => h2 h.2.2.1)]
    exact Ev.neg (fun h => h2 (of_decide_eq_true h)) (Ev.step (f := fun _ => some (-1)) (fun k => by simp [spec_Steady.j0]) (Ev.now _))
  refine Ev.pos (decide_eq_true h2) (Ev.bind0 rfl ?_)
  by_cases h3 : 0 ≤ count ∧ count ≤ 1000
  case neg =>
    rw [show steady ul us uw dl ds dw m n l now count want = -1 from if_neg (fun h => h3 h.2.2.2.1)]
    exact Ev.neg (fun h => h3 (of_decide_eq_true h)) (Ev.step (f := fun _ => some (-1)) (fun k => by simp [spec_Steady.j0]) (Ev.now _))
  refine Ev.pos (decide_eq_true h3) (Ev.bind0 rfl ?_)
  by_cases h4 : 0 ≤ want ∧ want ≤ 1000
  case neg =>
    rw [show steady ul us uw dl ds dw m n l now count want = -1 from if_neg (fun h => h4 h.2.2.2.2), decide_eq_false h4]
    exact Ev.step (f := fun _ => some (-1)) (fun k => by simp [spec_Steady.j0]) (Ev.now _)
  rw [show steady ul us uw dl ds dw m n l now count want = _ from if_pos ⟨h0, h1, h2, h3, h4⟩, decide_eq_true h4]
  obtain ⟨_, hf⟩ := ntOk_facts h1
  obtain ⟨hu, hd, _, _, _⟩ := behaveOk_facts h0
  obtain ⟨_, _, ⟨uw0, uw1⟩, _⟩ := sideOk_facts hu
  obtain ⟨_, _, ⟨dw0, dw1⟩, _⟩ := sideOk_facts hd
  have e1 : wrap64 (now - uw) = now - uw := wr_id (by omega) (by omega)
  have e2 : wrap64 (now - dw) = now - dw := wr_id (by omega) (by omega)
  refine Ev.step (f := fun k => spec_Steady.l0 k l now count want want 0 ul us uw dl ds dw m n) (fun k => by simp [spec_Steady.j0]) ?_
  refine ev_fold (F := fun k s i => spec_Steady.l0 k l now count s.1 s.2 i ul us uw dl ds dw m n) (n := l.length) (st := stSt l now uw dw) (out := stFin count) (Inv := StInv want) ?_ ?_ l.length 0 (want, want) (by omega) ⟨h4.1, Int.le_refl _, Int.le_refl _, h4.2⟩
  · intro s _
    exact Ev.step (f := fun _ => some (stFin count s)) (fun k => by simp only [spec_Steady.l0, stFin]; rw [if_neg (by omega)]; split; rfl; split <;> rfl) (Ev.now _)
  · intro s i hi hI
    refine ⟨stInv_step hf now uw dw want s i hi hI, fun r h => ?_⟩
    refine Ev.step (f := fun k => spec_Steady.j2 k l now count s.1 s.2 i (decide ((rd_T109 l i).f0 > now - uw ∧ (rd_T109 l i).f0 ≤ now ∧ (rd_T109 l i).f1 < s.1)) ul us uw dl ds dw m n (rd_T109 l i).f0 (rd_T109 l i).f1) (fun k => ?_) ?_
    · simp only [spec_Steady.l0]
      rw [if_pos (by omega), if_pos (by omega), e1]
      by_cases g1 : (rd_T109 l i).f0 > now - uw
      · rw [if_pos g1]
        by_cases g2 : (rd_T109 l i).f0 ≤ now
        · rw [if_pos g2]; simp [g1, g2]
        · rw [if_neg g2]; simp [g2]
      · rw [if_neg g1]; simp [g1]
    · refine Ev.step (fun k => ?_) h
      simp only [spec_Steady.j2, stSt, e2, wr_succ hi (show l.length ≤ 4611686018427387904 by omega)]
      by_cases g2 : (rd_T109 l i).f0 ≤ now
      · rw [if_neg (show ¬ (rd_T109 l i).f0 > now by omega)]
        by_cases g1 : (rd_T109 l i).f0 > now - uw
        · by_cases g3 : (rd_T109 l i).f1 < s.1
          · rw [decide_eq_true ⟨g1, g2, g3⟩]
            simp only [mn, mx, if_pos g1, if_pos g3, if_true]
            by_cases g4 : (rd_T109 l i).f0 > now - dw
            · simp only [if_pos g4, if_pos g2]
              by_cases g5 : (rd_T109 l i).f1 > s.2
              · rw [if_pos g5, if_pos (show s.2 < _ from g5)]
              · rw [if_neg g5, if_neg (show ¬ s.2 < _ from g5)]
            · simp only [if_neg g4]
          · rw [decide_eq_false (fun h => g3 h.2.2)]
            simp only [mn, mx, if_pos g1, if_neg g3, Bool.false_eq_true, if_false]
            by_cases g4 : (rd_T109 l i).f0 > now - dw
            · simp only [if_pos g4, if_pos g2]
              by_cases g5 : (rd_T109 l i).f1 > s.2
              · rw [if_pos g5, if_pos (show s.2 < _ from g5)]
              · rw [if_neg g5, if_neg (show ¬ s.2 < _ from g5)]
            · simp only [if_neg g4]
        · rw [decide_eq_false (fun h => g1 h.1)]
          simp only [mx, if_neg g1, Bool.false_eq_true, if_false]
          by_cases g4 : (rd_T109 l i).f0 > now - dw
          · simp only [if_pos g4, if_pos g2]
            by_cases g5 : (rd_T109 l i).f1 > s.2
            · rw [if_pos g5, if_pos (show s.2 < _ from g5)]
            · rw [if_neg g5, if_neg (show ¬ s.2 < _ from g5)]
          · simp only [if_neg g4]
      · rw [if_pos (show (rd_T109 l i).f0 > now by omega), decide_eq_false (fun h => g2 h.2.1)]
        simp only [Bool.false_eq_true, if_false, if_neg g2]
        split <;> rfl
theorem steady_impl (ul : List S96) (hul : ul.length ≤ 1048576) (us uw : Int) (dl : List S96) (hdl : dl.length ≤ 1048576) (ds dw m n : Int) (l : List S109) (hl : l.length ≤ 1048576) (now count want : Int) : Ev (fun k => impl_Steady.f k ul us uw dl ds dw m n l now count want) (steady ul us uw dl ds dw m n l now count want) := by
  unfold impl_Steady.f
  refine Ev.bind (behaveOk_impl ul hul us uw dl hdl ds dw m n) ?_
  by_cases h0 : behaveOk ul us uw dl ds dw m n = true
  case neg =>
    rw [show steady ul us uw dl ds dw m n l now count want = -1 from if_neg (fun h => h0 h.1)]
    exact Ev.neg h0 (Ev.step (f := fun _ => some (-1)) (fun k => by simp [impl_Steady.j0]) (Ev.now _))
  refine Ev.pos h0 (Ev.bind (ntOk_impl l hl) ?_)
  by_cases h1 : ntOk l = true
  case neg =>
    rw [show steady ul us uw dl ds dw m n l now count want = -1 from if_neg (fun h => h1 h.2.1)]
    exact Ev.neg h1 (Ev.step (f := fun _ => some (-1)) (fun k => by simp [impl_Steady.j0]) (Ev.now _))
  refine Ev.pos h1 ?_
  rw [tick_impl, count_impl, count_impl]
  refine Ev.bind0 rfl ?_
  by_cases h2 : 0 ≤ now ∧ now ≤ 1000000000
  case neg =>
    rw [show steady ul us uw dl ds dw m n l now count want = -1 from if_neg (fun h => h2 h.2.2.1)]
    exact Ev.neg (fun h => h2 (of_decide_eq_true h)) (Ev.step (f := fun _ => some (-1)) (fun k => by simp [impl_Steady.j0]) (Ev.now _))
  refine Ev.pos (decide_eq_true h2) (Ev.bind0 rfl ?_)
  by_cases h3 : 0 ≤ count ∧ count ≤ 1000
  case neg =>
    rw [show steady ul us uw dl ds dw m n l now count want = -1 from if_neg (fun h => h3 h.2.2.2.1)]
    exact Ev.neg (fun h => h3 (of_decide_eq_true h)) (Ev.step (f := fun _ => some (-1)) (fun k => by simp [impl_Steady.j0]) (Ev.now _))
  refine Ev.pos (decide_eq_true h3) (Ev.bind0 rfl ?_)
  by_cases h4 : 0 ≤ want ∧ want ≤ 1000
  case neg =>
    rw [show steady ul us uw dl ds dw m n l now count want = -1 from if_neg (fun h => h4 h.2.2.2.2), decide_eq_false h4]
    exact Ev.step (f := fun _ => some (-1)) (fun k => by simp [impl_Steady.j0]) (Ev.now _)
  rw [show steady ul us uw dl ds dw m n l now count want = _ from if_pos ⟨h0, h1, h2, h3, h4⟩, decide_eq_true h4]
  obtain ⟨_, hf⟩ := ntOk_facts h1
  obtain ⟨hu, hd, _, _, _⟩ := behaveOk_facts h0
  obtain ⟨_, _, ⟨uw0, uw1⟩, _⟩ := sideOk_facts hu
  obtain ⟨_, _, ⟨dw0, dw1⟩, _⟩ := sideOk_facts hd
  have e1 : wrap64 (now - uw) = now - uw := wr_id (by omega) (by omega)
  have e2 : wrap64 (now - dw) = now - dw := wr_id (by omega) (by omega)
  refine Ev.step (f := fun k => impl_Steady.l0 k now count want want l (l.length : Int) 0 ul us uw dl ds dw m n) (fun k => by simp [impl_Steady.j0]) ?_
  refine ev_fold (F := fun k s i => impl_Steady.l0 k now count s.1 s.2 l (l.length : Int) i ul us uw dl ds dw m n) (n := l.length) (st := stSt l now uw dw) (out := stFin count) (Inv := StInv want) ?_ ?_ l.length 0 (want, want) (by omega) ⟨h4.1, Int.le_refl _, Int.le_refl _, h4.2⟩
  · intro s _
    exact Ev.step (f := fun _ => some (stFin count s)) (fun k => by simp only [impl_Steady.l0, stFin]; rw [if_neg (by omega)]; split; rfl; split <;> rfl) (Ev.now _)
  · intro s i hi hI
    refine ⟨stInv_step hf now uw dw want s i hi hI, fun r h => Ev.step (fun k => ?_) h⟩
    simp only [impl_Steady.l0, stSt, e1, e2, wr_succ hi (show l.length ≤ 4611686018427387904 by omega)]
    rw [if_pos (by omega), if_pos (by omega), if_pos (by omega)]
    by_cases g0 : (rd_T109 l i).f0 > now
    · rw [if_pos g0, if_pos g0]
    · rw [if_neg g0, if_neg g0]
      by_cases g1 : (rd_T109 l i).f0 > now - uw
      · by_cases g2 : (rd_T109 l i).f0 > now - dw
        · simp only [if_pos g1, if_pos g2]
        · simp only [if_pos g1, if_neg g2]
      · by_cases g2 : (rd_T109 l i).f0 > now - dw
        · simp only [if_neg g1, if_pos g2]
        · simp only [if_neg g1, if_neg g2]
end Go.Proofs.Ytfjjlipfjddaiaa.Base
/- Decide of the program and of the reference are one plain function.
   Conditions: none. -/
namespace Go.Proofs.Ytfjjlipfjddaiaa.Base
open Go.RowKit Go.Proofs.YtfjjlipfjddaiaaW.PrintWords Go.Proofs.YtfjjlipfjddaiaaW.PrintMore Go.Proofs.Ytfjjlipfjddaiaa.Bo
def decideOf (ul : List S96) (us uw : Int) (dl : List S96) (ds dw m n : Int) (ls : List S109) (l : List S103) (now count want : Int) : Int :=
  limitWant ul us uw dl ds dw m n l now count (steady ul us uw dl ds dw m n ls now count want)
theorem decide_spec (ul : List S96) (us uw : Int) (dl : List S96) (ds dw m n : Int) (ls : List S109) (hls : ls.length ≤ 1048576) (l : List S103) (hl : l.length ≤ 1048576) (now count want : Int) : Ev (fun k => spec_Decide.f k ul us uw dl ds dw m n ls l now count want) (decideOf ul us uw dl ds dw m n ls l now count want) := by
  unfold spec_Decide.f decideOf
  refine Ev.bind (steady_spec ul us uw dl ds dw m n ls hls now count want) ?_
  by_cases h : steady ul us uw dl ds dw m n ls now count want < 0
  · rw [show limitWant ul us uw dl ds dw m n l now count (steady ul us uw dl ds dw m n ls now count want) = -1 from if_neg (fun g => by have := g.2.2.2.2.1; omega)]
    exact Ev.pos h (Ev.now _)
  · exact Ev.neg h (Ev.bind (limitWant_spec ul us uw dl ds dw m n l hl now count _) (Ev.now _))
theorem decide_impl (ul : List S96) (hul : ul.length ≤ 1048576) (us uw : Int) (dl : List S96) (hdl : dl.length ≤ 1048576) (ds dw m n : Int) (ls : List S109) (hls : ls.length ≤ 1048576) (l : List S103) (hl : l.length ≤ 1048576) (now count want : Int) : Ev (fun k => impl_Decide.f k ul us uw dl ds dw m n ls l now count want) (decideOf ul us uw dl ds dw m n ls l now count want) := by
  unfold impl_Decide.f decideOf
  exact Ev.bind (steady_impl ul hul us uw dl hdl ds dw m n ls hls now count want) (Ev.bind (limitWant_impl ul hul us uw dl hdl ds dw m n l hl now count _) (Ev.now _))
end Go.Proofs.Ytfjjlipfjddaiaa.Base
/- The draws end, whatever the code; how great what they give may be.
   Conditions: none. -/
namespace Go.Proofs.Ytfjjlipfjddaiaa.Base
open Go.RowKit Go.Proofs.YtfjjlipfjddaiaaW.PrintWords Go.Proofs.YtfjjlipfjddaiaaW.PrintMore Go.Proofs.Ytfjjlipfjddaiaa.Bo
theorem and255 (n : Int) : Go.bits .and .i64 n 255 = n % 256 := by
  have h255 : (BitVec.ofInt 64 255).toNat = 2 ^ 8 - 1 := by decide
  have key : (BitVec.ofInt 64 n &&& BitVec.ofInt 64 255).toNat = (n % ((2 ^ 64 : Nat) : Int)).toNat % 2 ^ 8 := by
    rw [BitVec.toNat_and, BitVec.toNat_ofInt, h255, Nat.and_two_pow_sub_one_eq_mod]
  show IntKind.i64.wrap ((BitVec.ofInt 64 n &&& BitVec.ofInt 64 255).toNat : Nat) = n % 256
  rw [key, IntKind.wrap_i64]
  omega
/-- The cursor stands within its bytes. -/
def Cur (b : List Int) (i : Int) : Prop := 0 ≤ i ∧ i ≤ (b.length : Int) ∧ b.length ≤ 1048576
theorem byte_ok (b : List Int) (i h : Int) (hi : Cur b i) : ∃ x i' h', spec_l01Byte.f b i h = some (x, i', h') ∧ 0 ≤ x ∧ x ≤ 255 ∧ Cur b i' := by
  obtain ⟨h0, h1, h2⟩ := hi
  unfold spec_l01Byte.f
  by_cases hl : i < (b.length : Int)
  · rw [if_pos hl, if_pos h0]
    refine ⟨_, _, _, rfl, ?_, ?_, ?_⟩
    · rw [and255]; omega
    · rw [and255]; omega
    · have : wrap64 (i + 1) = i + 1 := wr_id (by omega) (by omega)
      rw [this]
      exact ⟨by omega, by omega, h2⟩
  · rw [if_neg hl]
    refine ⟨_, _, _, rfl, ?_, ?_, h0, h1, h2⟩
    · rw [and255]; omega
    · rw [and255]; omega
theorem below_ok (b : List Int) (i h n : Int) (hi : Cur b i) (hn : 1 ≤ n) (hn2 : n ≤ 256) : ∃ x i' h', spec_l01Below.f b i h n = some (x, i', h') ∧ 0 ≤ x ∧ x < n ∧ Cur b i' := by
  obtain ⟨x, i', h', e, x0, x1, hc⟩ := byte_ok b i h hi
  unfold spec_l01Below.f
  rw [if_neg (by omega), if_pos hn2, e, Option.bind_some, if_neg (by omega)]
  exact ⟨_, _, _, rfl, Int.tmod_nonneg _ x0, Int.tmod_lt_of_pos _ (by omega), hc⟩
theorem pick_ok (b : List Int) (i h : Int) (l : List Int) (hi : Cur b i) (hn : 1 ≤ l.length) (hn2 : l.length ≤ 256) : ∃ x i' h', spec_l01PickInt.f b i h l = some (x, i', h') ∧ Cur b i' := by
  obtain ⟨x, i', h', e, x0, x1, hc⟩ := below_ok b i h (l.length : Int) hi (by omega) (by omega)
  unfold spec_l01PickInt.f
  rw [e, Option.bind_some, if_pos x0, if_pos x1]
  exact ⟨_, _, _, rfl, hc⟩
theorem once_ok (b : List Int) (i h n : Int) (hi : Cur b i) (hn : 1 ≤ n) (hn2 : n ≤ 256) : ∃ x i' h', spec_l01Once.f b i h n = some (x, i', h') ∧ Cur b i' := by
  obtain ⟨x, i', h', e, x0, x1, hc⟩ := below_ok b i h n hi hn hn2
  unfold spec_l01Once.f
  rw [e, Option.bind_some]
  exact ⟨_, _, _, rfl, hc⟩
theorem new_ok (b : List Int) (hb : b.length ≤ 1048576) : ∃ h, Ev (fun k => spec_l01New.f k b) (b, 0, h) := by
  unfold spec_l01New.f
  have key : ∀ d i : Nat, i + d = b.length → ∀ h : Int, ∃ h', Ev (fun k => spec_l01New.l0 k b h (i : Int)) (b, 0, h') := by
    intro d
    induction d with
    | zero =>
      intro i hi h
      exact ⟨h, Ev.step (fun k => rfl) (Ev.neg (by omega) (Ev.now _))⟩
    | succ d ih =>
      intro i hi h
      by_cases h4 : (i : Int) < 4000
      · obtain ⟨h', e⟩ := ih (i + 1) (by omega) (Go.bits .and .i64 (wrap64 ((wrap64 ((wrap64 (h * 149)) + (wrap64 (rd b (i : Int))))) + 11)) 1073741823)
        refine ⟨h', Ev.step (fun k => rfl) (Ev.pos (by omega) (Ev.pos h4 (Ev.pos (by omega) ?_)))⟩
        rw [wr_succ (show i < b.length by omega) (by omega)]
        exact e
      · exact ⟨h, Ev.step (fun k => rfl) (Ev.pos (by omega) (Ev.neg h4 (Ev.now _)))⟩
  exact key b.length 0 (by omega) _
theorem side_ok (b : List Int) (i h : Int) (hi : Cur b i) : ∃ l s w i' h', Ev (fun k => spec_l06DrawSide.f k b i h) (l, s, w, i', h') ∧ l.length ≤ 10 ∧ Cur b i' := by
  obtain ⟨s, i1, h1, e1, c1⟩ := pick_ok b i h [0, 0, 1, 1, 2] hi (by decide) (by decide)
  obtain ⟨w, i2, h2, e2, c2⟩ := pick_ok b i1 h1 [0, 0, 5, 20] c1 (by decide) (by decide)
  obtain ⟨n, i3, h3, e3, n0, n1, c3⟩ := below_ok b i2 h2 4 c2 (by decide) (by decide)
  have key : ∀ d : Nat, d ≤ 10 → ∀ (i h : Int) (l : List S96), Cur b i → l.length + d ≤ 10 → ∃ l' i' h', Ev (fun k => spec_l06DrawSide.l0 k (d : Int) b i h l s w) (l', s, w, i', h') ∧ l'.length ≤ 10 ∧ Cur b i' := by
    intro d
    induction d with
    | zero =>
      intro _ i h l hc hl
      exact ⟨l, i, h, Ev.step (fun k => rfl) (Ev.neg (by omega) (Ev.now _)), by omega, hc⟩
    | succ d ih =>
      intro hd i h l hc hl
      obtain ⟨a, i1, h1, e1, a0, a1, c1⟩ := below_ok b i h 2 hc (by decide) (by decide)
      obtain ⟨p, i2, h2, e2, p0, p1, c2⟩ := below_ok b i1 h1 20 c1 (by decide) (by decide)
      obtain ⟨v, i3, h3, e3, v0, v1, c3⟩ := below_ok b i2 h2 4 c2 (by decide) (by decide)
      have wd : wrap64 (((d + 1 : Nat) : Int) - 1) = (d : Int) := by rw [wr_id (by omega) (by omega)]; omega
      by_cases ha : a = 1
      · obtain ⟨u, i4, h4, e4, c4⟩ := pick_ok b i3 h3 [10, 50, 100, 200] c3 (by decide) (by decide)
        obtain ⟨l', i', h', e, g1, g2⟩ := ih (by omega) i4 h4 (l ++ [(⟨a, u, wrap64 (1 + p)⟩ : S96)]) c4 (by simp; omega)
        refine ⟨l', i', h', Ev.step (fun k => rfl) (Ev.pos (by omega) (Ev.bind0 e1 (Ev.bind0 e2 (Ev.bind0 e3 (Ev.pos ha (Ev.bind0 e4 (Ev.pos (by omega) ?_))))))), g1, g2⟩
        rw [wd]
        exact e
      · obtain ⟨l', i', h', e, g1, g2⟩ := ih (by omega) i3 h3 (l ++ [(⟨a, wrap64 (1 + v), wrap64 (1 + p)⟩ : S96)]) c3 (by simp; omega)
        refine ⟨l', i', h', Ev.step (fun k => rfl) (Ev.pos (by omega) (Ev.bind0 e1 (Ev.bind0 e2 (Ev.bind0 e3 (Ev.neg ha (Ev.pos (by omega) ?_)))))), g1, g2⟩
        rw [wd]
        exact e
  obtain ⟨l', i', h', e, g1, g2⟩ := key n.toNat (by omega) i3 h3 [] c3 (by simp; omega)
  rw [show ((n.toNat : Nat) : Int) = n by omega] at e
  unfold spec_l06DrawSide.f
  exact ⟨l', s, w, i', h', Ev.bind0 e1 (Ev.bind0 e2 (Ev.bind0 e3 e)), g1, g2⟩
theorem behave_ok (b : List Int) (i h : Int) (hi : Cur b i) : ∃ l s w l' s' w' m n i' h', Ev (fun k => spec_l06DrawBehave.f k b i h) (l, s, w, l', s', w', m, n, i', h') ∧ l.length ≤ 10 ∧ l'.length ≤ 10 ∧ Cur b i' := by
  obtain ⟨l, s, w, i1, h1, e1, g1, c1⟩ := side_ok b i h hi
  obtain ⟨l', s', w', i2, h2, e2, g2, c2⟩ := side_ok b i1 h1 c1
  obtain ⟨m, i3, h3, e3, _, _, c3⟩ := below_ok b i2 h2 4 c2 (by decide) (by decide)
  obtain ⟨n, i4, h4, e4, c4⟩ := pick_ok b i3 h3 [4, 10, 20, 0] c3 (by decide) (by decide)
  unfold spec_l06DrawBehave.f
  exact ⟨_, _, _, _, _, _, _, _, _, _, Ev.bind e1 (Ev.bind e2 (Ev.bind0 e3 (Ev.bind0 e4 (Ev.now _)))), g1, g2, c4⟩
theorem loose_ok (b : List Int) (i h : Int) (hi : Cur b i) : ∃ l s w l' s' w' m n i' h', Ev (fun k => spec_l06Loose.f k b i h) (l, s, w, l', s', w', m, n, i', h') ∧ l.length ≤ 20 ∧ l'.length ≤ 20 ∧ Cur b i' := by
  obtain ⟨l, s, w, l', s', w', m, n, i1, h1, e1, g1, g2, c1⟩ := behave_ok b i h hi
  obtain ⟨o, i2, h2, e2, c2⟩ := once_ok b i1 h1 12 c1 (by decide) (by decide)
  unfold spec_l06Loose.f
  cases o with
  | false => exact ⟨_, _, _, _, _, _, _, _, _, _, Ev.bind e1 (Ev.bind0 e2 (Ev.neg (by simp) (Ev.now _))), (show l.length ≤ 20 by omega), (show l'.length ≤ 20 by omega), c2⟩
  | true =>
    obtain ⟨x, i3, h3, e3, x0, x1, c3⟩ := below_ok b i2 h2 5 c2 (by decide) (by decide)
    by_cases q0 : x = 0
    · obtain ⟨y, i4, h4, e4, c4⟩ := pick_ok b i3 h3 [-1, wrap64 (n + 1)] c3 (by simp) (by simp)
      exact ⟨_, _, _, _, _, _, _, _, _, _, Ev.bind e1 (Ev.bind0 e2 (Ev.pos rfl (Ev.bind0 e3 (Ev.pos q0 (Ev.bind0 e4 (Ev.now _)))))), (show l.length ≤ 20 by omega), (show l'.length ≤ 20 by omega), c4⟩
    by_cases q1 : x = 1
    · obtain ⟨y, i4, h4, e4, c4⟩ := pick_ok b i3 h3 [1000, 1001] c3 (by simp) (by simp)
      exact ⟨_, _, _, _, _, _, _, _, _, _, Ev.bind e1 (Ev.bind0 e2 (Ev.pos rfl (Ev.bind0 e3 (Ev.neg q0 (Ev.pos q1 (Ev.bind0 e4 (Ev.now _))))))), (show l.length ≤ 20 by omega), (show l'.length ≤ 20 by omega), c4⟩
    by_cases q2 : x = 2
    · obtain ⟨y, i4, h4, e4, c4⟩ := pick_ok b i3 h3 [-1, 3] c3 (by simp) (by simp)
      exact ⟨_, _, _, _, _, _, _, _, _, _, Ev.bind e1 (Ev.bind0 e2 (Ev.pos rfl (Ev.bind0 e3 (Ev.neg q0 (Ev.neg q1 (Ev.pos q2 (Ev.bind0 e4 (Ev.now _)))))))), (show l.length ≤ 20 by omega), (show l'.length ≤ 20 by omega), c4⟩
    by_cases q3 : x = 3
    · obtain ⟨y, i4, h4, e4, c4⟩ := pick_ok b i3 h3 [-1, 1000, 1001] c3 (by simp) (by simp)
      exact ⟨_, _, _, _, _, _, _, _, _, _, Ev.bind e1 (Ev.bind0 e2 (Ev.pos rfl (Ev.bind0 e3 (Ev.neg q0 (Ev.neg q1 (Ev.neg q2 (Ev.pos q3 (Ev.bind0 e4 (Ev.now _))))))))), (show l.length ≤ 20 by omega), (show l'.length ≤ 20 by omega), c4⟩
    have q4 : x = 4 := by omega
    exact ⟨_, _, _, _, _, _, _, _, _, _, Ev.bind e1 (Ev.bind0 e2 (Ev.pos rfl (Ev.bind0 e3 (Ev.neg q0 (Ev.neg q1 (Ev.neg q2 (Ev.neg q3 (Ev.pos q4 (Ev.pos (show l.length < 5864062014805 by omega) (Ev.now _)))))))))), (show (l ++ [(⟨2, 1, 1⟩ : S96)]).length ≤ 20 by simp; omega), (show l'.length ≤ 20 by omega), c3⟩
theorem notes_ok (b : List Int) (i h : Int) (hi : Cur b i) : ∃ l i' h', Ev (fun k => spec_l06DrawNotes.f k b i h) (l, i', h') ∧ l.length ≤ 1000 ∧ Cur b i' := by
  have k1 : ∀ D : Nat, ∀ (l : List S109), 300 ≤ l.length + D → l.length ≤ 300 → ∀ i h : Int, Cur b i → ∃ l' i' h', Ev (fun k => spec_l06DrawNotes.l1 k l b i h) (l', i', h') ∧ l'.length ≤ 1000 ∧ Cur b i' := by
    intro D
    induction D with
    | zero =>
      intro l hl hl2 i h hc
      obtain ⟨x, i1, h1, e1, x0, x1, c1⟩ := below_ok b i h 2 hc (by decide) (by decide)
      have hw : wrap64 (200 + x) = 200 + x := wr_id (by omega) (by omega)
      exact ⟨_, _, _, Ev.step (fun k => rfl) (Ev.bind0 e1 (Ev.neg (by rw [hw]; omega) (Ev.now _))), by omega, c1⟩
    | succ D ih =>
      intro l hl hl2 i h hc
      obtain ⟨x, i1, h1, e1, x0, x1, c1⟩ := below_ok b i h 2 hc (by decide) (by decide)
      have hw : wrap64 (200 + x) = 200 + x := wr_id (by omega) (by omega)
      by_cases hs : (l.length : Int) < 200 + x
      · obtain ⟨l', i', h', e, g1, g2⟩ := ih (l ++ [(⟨90, 3⟩ : S109)]) (by simp; omega) (by simp; omega) i1 h1 c1
        exact ⟨l', i', h', Ev.step (fun k => rfl) (Ev.bind0 e1 (Ev.pos (by rw [hw]; exact hs) (Ev.pos (by omega) e))), g1, g2⟩
      · exact ⟨_, _, _, Ev.step (fun k => rfl) (Ev.bind0 e1 (Ev.neg (by rw [hw]; exact hs) (Ev.now _))), by omega, c1⟩
  have k2 : ∀ (l : List S109) (i h : Int), l.length ≤ 100 → Cur b i → ∃ l' i' h', Ev (fun k => spec_l06DrawNotes.j2 k l b i h) (l', i', h') ∧ l'.length ≤ 1000 ∧ Cur b i' := by
    intro l i h hl hc
    obtain ⟨o, i1, h1, e1, c1⟩ := once_ok b i h 40 hc (by decide) (by decide)
    cases o with
    | false => exact ⟨_, _, _, Ev.step (fun k => spec_l06DrawNotes.j2.eq_2 ..) (Ev.bind0 e1 (Ev.neg (by simp) (Ev.now _))), by omega, c1⟩
    | true =>
      obtain ⟨l', i', h', e, g1, g2⟩ := k1 300 l (by omega) (by omega) i1 h1 c1
      exact ⟨l', i', h', Ev.step (fun k => spec_l06DrawNotes.j2.eq_2 ..) (Ev.bind0 e1 (Ev.pos rfl e)), g1, g2⟩
  have k3 : ∀ (l : List S109) (o : Bool) (i h : Int), l.length ≤ 100 → (o = true → 0 < l.length) → Cur b i → ∃ l' i' h', Ev (fun k => spec_l06DrawNotes.j1 k l o b i h) (l', i', h') ∧ l'.length ≤ 1000 ∧ Cur b i' := by
    intro l o i h hl ho hc
    cases o with
    | false =>
      obtain ⟨l', i', h', e, g1, g2⟩ := k2 l i h hl hc
      exact ⟨l', i', h', Ev.step (fun k => spec_l06DrawNotes.j1.eq_2 ..) (Ev.neg (by simp) e), g1, g2⟩
    | true =>
      have hp := ho rfl
      obtain ⟨x, i1, h1, e1, x0, x1, c1⟩ := below_ok b i h (l.length : Int) hc (by omega) (by omega)
      obtain ⟨y, i2, h2, e2, c2⟩ := pick_ok b i1 h1 [-1, 999, 0] c1 (by simp) (by simp)
      obtain ⟨z, i3, h3, e3, c3⟩ := pick_ok b i2 h2 [-1, 5, 1001] c2 (by simp) (by simp)
      obtain ⟨l', i', h', e, g1, g2⟩ := k2 (l.set x.toNat (⟨y, z⟩ : S109)) i3 h3 (by simpa using hl) c3
      exact ⟨l', i', h', Ev.step (fun k => spec_l06DrawNotes.j1.eq_2 ..) (Ev.pos rfl (Ev.bind0 e1 (Ev.bind0 e2 (Ev.bind0 e3 (Ev.pos x0 (Ev.pos x1 e)))))), g1, g2⟩
  have k0 : ∀ d : Nat, ∀ (l : List S109) (t : Int) (i h : Int), l.length + d ≤ 100 → Cur b i → ∃ l' i' h', Ev (fun k => spec_l06DrawNotes.l0 k l t (d : Int) b i h) (l', i', h') ∧ l'.length ≤ 1000 ∧ Cur b i' := by
    intro d
    induction d with
    | zero =>
      intro l t i h hl hc
      obtain ⟨o, i1, h1, e1, c1⟩ := once_ok b i h 15 hc (by decide) (by decide)
      cases o with
      | false =>
        obtain ⟨l', i', h', e, g1, g2⟩ := k3 l false i1 h1 (by omega) (by simp) c1
        exact ⟨l', i', h', Ev.step (fun k => spec_l06DrawNotes.l0.eq_2 ..) (Ev.neg (by omega) (Ev.bind0 e1 (Ev.neg (by simp) e))), g1, g2⟩
      | true =>
        obtain ⟨l', i', h', e, g1, g2⟩ := k3 l (decide ((l.length : Int) > 0)) i1 h1 (by omega) (fun hq => by have := of_decide_eq_true hq; omega) c1
        exact ⟨l', i', h', Ev.step (fun k => spec_l06DrawNotes.l0.eq_2 ..) (Ev.neg (by omega) (Ev.bind0 e1 (Ev.pos rfl e))), g1, g2⟩
    | succ d ih =>
      intro l t i h hl hc
      obtain ⟨x, i1, h1, e1, x0, x1, c1⟩ := below_ok b i h 8 hc (by decide) (by decide)
      obtain ⟨y, i2, h2, e2, y0, y1, c2⟩ := below_ok b i1 h1 12 c1 (by decide) (by decide)
      have wd : wrap64 (((d + 1 : Nat) : Int) - 1) = (d : Int) := by rw [wr_id (by omega) (by omega)]; omega
      obtain ⟨l', i', h', e, g1, g2⟩ := ih (l ++ [(⟨wrap64 (t + x), y⟩ : S109)]) (wrap64 (t + x)) i2 h2 (by simp; omega) c2
      refine ⟨l', i', h', Ev.step (fun k => spec_l06DrawNotes.l0.eq_2 ..) (Ev.pos (by omega) (Ev.bind0 e1 (Ev.bind0 e2 (Ev.pos (by omega) ?_)))), g1, g2⟩
      rw [wd]
      exact e
  obtain ⟨n, i1, h1, e1, n0, n1, c1⟩ := below_ok b i h 10 hi (by decide) (by decide)
  obtain ⟨l', i', h', e, g1, g2⟩ := k0 n.toNat [] 0 i1 h1 (by simp; omega) c1
  rw [show ((n.toNat : Nat) : Int) = n by omega] at e
  unfold spec_l06DrawNotes.f
  exact ⟨l', i', h', Ev.bind0 e1 e, g1, g2⟩
theorem now_ok (b : List Int) (i h : Int) (hi : Cur b i) : ∃ x i' h', spec_l04DrawNow.f b i h = some (x, i', h') ∧ Cur b i' := by
  obtain ⟨x, i1, h1, e1, _, _, c1⟩ := below_ok b i h 70 hi (by decide) (by decide)
  obtain ⟨y, i2, h2, e2, _, _, c2⟩ := below_ok b i1 h1 70 c1 (by decide) (by decide)
  obtain ⟨z, i3, h3, e3, c3⟩ := pick_ok b i2 h2 [x, y, 30, -1, 1000000000] c2 (by simp) (by simp)
  unfold spec_l04DrawNow.f
  exact ⟨z, i3, h3, by rw [e1, Option.bind_some, e2, Option.bind_some, e3, Option.bind_some], c3⟩
theorem count_ok (b : List Int) (i h : Int) (hi : Cur b i) : ∃ x i' h', spec_l06DrawCount.f b i h = some (x, i', h') ∧ Cur b i' := by
  obtain ⟨x, i1, h1, e1, _, _, c1⟩ := below_ok b i h 12 hi (by decide) (by decide)
  obtain ⟨y, i2, h2, e2, _, _, c2⟩ := below_ok b i1 h1 12 c1 (by decide) (by decide)
  obtain ⟨v, i3, h3, e3, _, _, c3⟩ := below_ok b i2 h2 30 c2 (by decide) (by decide)
  obtain ⟨z, i4, h4, e4, c4⟩ := pick_ok b i3 h3 [x, y, v, 0, 1000, 1001, -1] c3 (by simp) (by simp)
  unfold spec_l06DrawCount.f
  exact ⟨z, i4, h4, by rw [e1, Option.bind_some, e2, Option.bind_some, e3, Option.bind_some, e4, Option.bind_some], c4⟩
end Go.Proofs.Ytfjjlipfjddaiaa.Base
/- The draw of moves ends.
   Conditions: none. -/
namespace Go.Proofs.Ytfjjlipfjddaiaa.Base
open Go.RowKit Go.Proofs.YtfjjlipfjddaiaaW.PrintWords Go.Proofs.YtfjjlipfjddaiaaW.PrintMore Go.Proofs.Ytfjjlipfjddaiaa.Bo
theorem moves_ok (b : List Int) (i h : Int) (hi : Cur b i) : ∃ l i' h', Ev (fun k => spec_l06DrawMoves.f k b i h) (l, i', h') ∧ l.length ≤ 1000 ∧ Cur b i' := by
  have k3 : ∀ (l : List S103) (o : Bool) (i h : Int), l.length ≤ 100 → (o = true → 0 < l.length) → Cur b i → ∃ l' i' h', Ev (fun k => spec_l06DrawMoves.j1 k l o b i h) (l', i', h') ∧ l'.length ≤ 1000 ∧ Cur b i' := by
    intro l o i h hl ho hc
    cases o with
    | false => exact ⟨l, i, h, Ev.step (fun k => spec_l06DrawMoves.j1.eq_2 ..) (Ev.neg (by simp) (Ev.now _)), by omega, hc⟩
    | true =>
      have hp := ho rfl
      obtain ⟨x, i1, h1, e1, x0, x1, c1⟩ := below_ok b i h (l.length : Int) hc (by omega) (by omega)
      obtain ⟨y, i2, h2, e2, c2⟩ := pick_ok b i1 h1 [-1, 999, 0] c1 (by simp) (by simp)
      obtain ⟨z, i3, h3, e3, c3⟩ := pick_ok b i2 h2 [1000, 1001, -1001] c2 (by simp) (by simp)
      exact ⟨_, _, _, Ev.step (fun k => spec_l06DrawMoves.j1.eq_2 ..) (Ev.pos rfl (Ev.bind0 e1 (Ev.bind0 e2 (Ev.bind0 e3 (Ev.pos x0 (Ev.pos x1 (Ev.now _))))))), by rw [List.length_set]; omega, c3⟩
  have k0 : ∀ d : Nat, ∀ (l : List S103) (t : Int) (i h : Int), l.length + d ≤ 100 → Cur b i → ∃ l' i' h', Ev (fun k => spec_l06DrawMoves.l0 k l t (d : Int) b i h) (l', i', h') ∧ l'.length ≤ 1000 ∧ Cur b i' := by
    intro d
    induction d with
    | zero =>
      intro l t i h hl hc
      obtain ⟨o, i1, h1, e1, c1⟩ := once_ok b i h 15 hc (by decide) (by decide)
      cases o with
      | false =>
        obtain ⟨l', i', h', e, g1, g2⟩ := k3 l false i1 h1 (by omega) (by simp) c1
        exact ⟨l', i', h', Ev.step (fun k => spec_l06DrawMoves.l0.eq_2 ..) (Ev.neg (by omega) (Ev.bind0 e1 (Ev.neg (by simp) e))), g1, g2⟩
      | true =>
        obtain ⟨l', i', h', e, g1, g2⟩ := k3 l (decide ((l.length : Int) > 0)) i1 h1 (by omega) (fun hq => by have := of_decide_eq_true hq; omega) c1
        exact ⟨l', i', h', Ev.step (fun k => spec_l06DrawMoves.l0.eq_2 ..) (Ev.neg (by omega) (Ev.bind0 e1 (Ev.pos rfl e))), g1, g2⟩
    | succ d ih =>
      intro l t i h hl hc
      obtain ⟨x, i1, h1, e1, x0, x1, c1⟩ := below_ok b i h 10 hc (by decide) (by decide)
      obtain ⟨y, i2, h2, e2, y0, y1, c2⟩ := below_ok b i1 h1 9 c1 (by decide) (by decide)
      have wd : wrap64 (((d + 1 : Nat) : Int) - 1) = (d : Int) := by rw [wr_id (by omega) (by omega)]; omega
      obtain ⟨l', i', h', e, g1, g2⟩ := ih (l ++ [(⟨wrap64 (t + x), wrap64 (y - 4)⟩ : S103)]) (wrap64 (t + x)) i2 h2 (by simp; omega) c2
      refine ⟨l', i', h', Ev.step (fun k => spec_l06DrawMoves.l0.eq_2 ..) (Ev.pos (by omega) (Ev.bind0 e1 (Ev.bind0 e2 (Ev.pos (by omega) ?_)))), g1, g2⟩
      rw [wd]
      exact e
  obtain ⟨n, i1, h1, e1, n0, n1, c1⟩ := below_ok b i h 8 hi (by decide) (by decide)
  obtain ⟨l', i', h', e, g1, g2⟩ := k0 n.toNat [] 0 i1 h1 (by simp; omega) c1
  rw [show ((n.toNat : Nat) : Int) = n by omega] at e
  unfold spec_l06DrawMoves.f
  exact ⟨l', i', h', Ev.bind0 e1 e, g1, g2⟩
end Go.Proofs.Ytfjjlipfjddaiaa.Base
namespace Go.Proofs.Ytfjjlipfjddaiaa.Pure
open Go.RowKit Go.Proofs.YtfjjlipfjddaiaaW.PrintWords Go.Proofs.YtfjjlipfjddaiaaW.PrintMore Go.Proofs.Ytfjjlipfjddaiaa.Bo Go.Proofs.Ytfjjlipfjddaiaa.Base
theorem drawDecide_ok (b : List Int) (hb : b.length ≤ 1048576) : ∃ ul us uw dl ds dw m n ls l now count want, Ev (fun k => spec_DrawDecide.f k b) (ul, us, uw, dl, ds, dw, m, n, ls, l, now, count, want) ∧ ul.length ≤ 20 ∧ dl.length ≤ 20 ∧ ls.length ≤ 1000 ∧ l.length ≤ 1000 := by
  obtain ⟨h0, e0⟩ := new_ok b hb
  obtain ⟨ul, us, uw, dl, ds, dw, m, n, i1, h1, e1, g1, g2, c1⟩ := loose_ok b 0 h0 ⟨by omega, by omega, hb⟩
  obtain ⟨ls, i2, h2, e2, g3, c2⟩ := notes_ok b i1 h1 c1
  obtain ⟨l, i3, h3, e3, g4, c3⟩ := moves_ok b i2 h2 c2
  obtain ⟨now, i4, h4, e4, c4⟩ := now_ok b i3 h3 c3
  obtain ⟨count, i5, h5, e5, c5⟩ := count_ok b i4 h4 c4
  obtain ⟨want, i6, h6, e6, c6⟩ := count_ok b i5 h5 c5
  unfold spec_DrawDecide.f
  exact ⟨_, _, _, _, _, _, _, _, _, _, _, _, _, Ev.bind e0 (Ev.bind e1 (Ev.bind e2 (Ev.bind e3 (Ev.bind0 e4 (Ev.bind0 e5 (Ev.bind0 e6 (Ev.now _))))))), g1, g2, g3, g4⟩
theorem cutOf_in {x lo hi : Int} (h : lo ≤ hi) : lo ≤ cutOf x lo hi ∧ cutOf x lo hi ≤ hi := by
  unfold cutOf
  split
  · omega
  · split <;> omega
theorem cutOf_ends (x lo hi : Int) : cutOf x lo hi = x ∨ (cutOf x lo hi = lo ∧ x < lo) ∨ (cutOf x lo hi = hi ∧ x > hi) := by
  unfold cutOf
  split
  · right; left; omega
  · split
    · right; right; omega
    · left; rfl
theorem fin_ {x up dn m n : Int} (h1 : x ≤ up → ¬ x ≥ dn → x = n) (h2 : ¬ x ≤ up → x = m ∧ x ≥ dn) (h3 : ¬ x < m) (h4 : ¬ x > n) :
    Ev (fun _ => if x < m then (some false) else (if x > n then (some false) else (if x ≤ up then (if x ≥ dn then (some true) else (some (x == n))) else (if x = m then (if x ≥ dn then (some true) else (some (x == n))) else (some false))))) true := by
  refine Ev.neg h3 (Ev.neg h4 ?_)
  by_cases a : x ≤ up
  · refine Ev.pos a ?_
    by_cases b : x ≥ dn
    · exact Ev.pos b (Ev.now true)
    · refine Ev.neg b ?_
      rw [h1 a b, beq_self_eq_true]
      exact Ev.now true
  · exact Ev.neg a (Ev.pos (h2 a).1 (Ev.pos (h2 a).2 (Ev.now true)))
theorem FnBounds : ∀ (l0 : List Int), (l0.length ≤ 9223372036854775807 ∧ ∀ x ∈ l0, (Lit.int .u8 x).wf = true) → ∃ k, laws_FnBounds.f k l0 = some true := by
  intro b _
  apply Ev.rounds (g := fun k => laws_FnBounds.f k b)
  unfold laws_FnBounds.f laws_big.f
  refine Ev.bind0 rfl ?_
  by_cases hb : (b.length : Int) > 1048576
  · exact Ev.pos (decide_eq_true hb) (Ev.now true)
  refine Ev.neg (by rw [decide_eq_true_eq]; exact hb) ?_
  obtain ⟨ul, us, uw, dl, ds, dw, m, n, ls, l, now, count, want, e, g1, g2, g3, g4⟩ := drawDecide_ok b (by omega)
  refine Ev.bind e (Ev.bind (decide_impl ul (by omega) us uw dl (by omega) ds dw m n ls (by omega) l (by omega) now count want) (Ev.bind (decide_spec ul us uw dl ds dw m n ls (by omega) l (by omega) now count want) (Ev.pos rfl (Ev.bind (upBound_impl ul (by omega) us uw l (by omega) now count) (Ev.bind (downBound_impl dl (by omega) ds dw l (by omega) now count) (Ev.bind (upBound_spec ul us uw l (by omega) now count) (Ev.pos rfl (Ev.bind (downBound_spec dl ds dw l (by omega) now count) ?_))))))))
  refine Ev.step (fun k => laws_FnBounds.j0.eq_2 ..) (Ev.neg (by simp) ?_)
  unfold decideOf
  generalize steady ul us uw dl ds dw m n ls now count want = st
  by_cases h : LwOk ul us uw dl ds dw m n l now count st
  · have hx : limitWant ul us uw dl ds dw m n l now count st = cutOf (cutOf st (downBound dl ds dw l now count) (upBound ul us uw l now count)) m n := if_pos h
    obtain ⟨hbe, hmv, hnow, hcount, _⟩ := h
    unfold behaveOk at hbe
    rw [Bool.and_eq_true, Bool.and_eq_true, decide_eq_true_eq] at hbe
    obtain ⟨hu, hd, m0, mn_, n1⟩ := hbe
    obtain ⟨u1, u2, u3⟩ := upBound_facts (show BdOk ul us uw l now count from ⟨hu, hmv, hnow, hcount⟩)
    obtain ⟨d1, d2, d3⟩ := downBound_facts (show BdOk dl ds dw l now count from ⟨hd, hmv, hnow, hcount⟩)
    have y := cutOf_in (x := st) (show downBound dl ds dw l now count ≤ upBound ul us uw l now count by omega)
    rw [hx]
    clear hx
    generalize upBound ul us uw l now count = up at u1 u2 u3 y ⊢
    generalize downBound dl ds dw l now count = dn at d1 d2 d3 y ⊢
    generalize cutOf st dn up = z at y ⊢
    have x1 := cutOf_in (x := z) mn_
    have x2 := cutOf_ends z m n
    generalize cutOf z m n = x at x1 x2 ⊢
    refine Ev.neg (show ¬ x < 0 by omega) (Ev.neg (show ¬ up < count by omega) (Ev.neg (show ¬ dn > count by omega) ?_))
    have f := fin_ (x := x) (up := up) (dn := dn) (m := m) (n := n) (by omega) (by omega) (by omega) (by omega)
    by_cases a : us = 2
    · refine Ev.pos a (Ev.pos (u3 a) ?_)
      by_cases c : ds = 2
      · exact Ev.pos c (Ev.pos (d3 c) f)
      · exact Ev.neg c f
    · refine Ev.neg a ?_
      by_cases c : ds = 2
      · exact Ev.pos c (Ev.pos (d3 c) f)
      · exact Ev.neg c f
  · have hx : limitWant ul us uw dl ds dw m n l now count st = -1 := if_neg h
    rw [hx]
    refine Ev.pos (show (-1 : Int) < 0 by decide) ?_
    exact Ev.now true
end Go.Proofs.Ytfjjlipfjddaiaa.Pure
