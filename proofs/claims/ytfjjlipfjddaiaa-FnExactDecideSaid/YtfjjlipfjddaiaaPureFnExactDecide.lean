/- For every Behave, all notes, moves, times and counts the law of Decide answers true.
   Conditions: none. -/
import Derived.Test.YtfjjlipfjddaiaaVMore
import Derived.Test.YtfjjlipfjddaiaaU25
import Derived.Test.YtfjjlipfjddaiaaU29
import Derived.Test.YtfjjlipfjddaiaaU26
import Derived.Test.YtfjjlipfjddaiaaU30
import Derived.Test.YtfjjlipfjddaiaaU23
import Derived.Test.YtfjjlipfjddaiaaU8
import Derived.Test.YtfjjlipfjddaiaaU11
import Derived.Test.YtfjjlipfjddaiaaU15
import Derived.Test.YtfjjlipfjddaiaaU19
import Derived.Test.YtfjjlipfjddaiaaU5
import Derived.Test.YtfjjlipfjddaiaaU12
import Derived.Test.YtfjjlipfjddaiaaU24
import Derived.Test.YtfjjlipfjddaiaaU27
import Derived.Test.YtfjjlipfjddaiaaU28
import Derived.Test.YtfjjlipfjddaiaaU6
import Derived.Test.YtfjjlipfjddaiaaU9
import Derived.Test.YtfjjlipfjddaiaaU7
import Derived.Test.YtfjjlipfjddaiaaU10
import Derived.Test.YtfjjlipfjddaiaaU40
import Derived.Test.YtfjjlipfjddaiaaU45
import Derived.Test.YtfjjlipfjddaiaaU38
import Derived.Test.YtfjjlipfjddaiaaU43
import Derived.Test.YtfjjlipfjddaiaaU41
import Derived.Test.YtfjjlipfjddaiaaU39
import Derived.Test.YtfjjlipfjddaiaaU46
import Derived.Test.YtfjjlipfjddaiaaU44
import Derived.Test.YtfjjlipfjddaiaaU49
import Derived.Test.YtfjjlipfjddaiaaU50
import Derived.Test.YtfjjlipfjddaiaaU48
import Derived.Test.YtfjjlipfjddaiaaU13
import Derived.Test.YtfjjlipfjddaiaaU16
import Derived.Test.YtfjjlipfjddaiaaU36
import Derived.Test.YtfjjlipfjddaiaaU35
import Derived.Test.YtfjjlipfjddaiaaU52
import Derived.Test.YtfjjlipfjddaiaaU53
/- Plain facts: loops of the printed functions, from some number of rounds on.
   Conditions: none. -/
namespace Go.Proofs.Ytfjjlipfjddaiaa.Base
open Go.RowKit Go.Proofs.YtfjjlipfjddaiaaW.PrintWords Go.Proofs.YtfjjlipfjddaiaaW.PrintMore

theorem wr_succ {i n : Nat} (h : i < n) (hn : n ≤ 4611686018427387904) : wrap64 ((i : Int) + 1) = ((i + 1 : Nat) : Int) := by
  unfold wrap64; omega
theorem wr_pred {i : Nat} (h : 0 < i) (hn : i ≤ 4611686018427387904) : wrap64 ((i : Int) - 1) = ((i - 1 : Nat) : Int) := by
  unfold wrap64; omega
theorem wr_id {x : Int} (h : -9223372036854775808 ≤ x) (h' : x ≤ 9223372036854775807) : wrap64 x = x := by
  unfold wrap64; omega

theorem Ev.pos {α : Type} {c : Prop} [Decidable c] {f g : Nat → Option α} {r : α} (hc : c) (h : Ev f r) : Ev (fun k => if c then f k else g k) r := by
  obtain ⟨K, h⟩ := h
  exact ⟨K, fun k hk => (if_pos hc).trans (h k hk)⟩
theorem Ev.neg {α : Type} {c : Prop} [Decidable c] {f g : Nat → Option α} {r : α} (hc : ¬ c) (h : Ev g r) : Ev (fun k => if c then f k else g k) r := by
  obtain ⟨K, h⟩ := h
  exact ⟨K, fun k hk => (if_neg hc).trans (h k hk)⟩
/-- A bind of what needs no rounds. -/
theorem Ev.bind0 {α β : Type} {o : Option α} {a : α} {f : Nat → α → Option β} {r : β} (h : o = some a) (k : Ev (fun n => f n a) r) : Ev (fun n => o.bind (f n)) r := by
  subst h; exact k
theorem Ev.unique {α : Type} {g : Nat → Option α} {r q : α} (h : Ev g r) (h' : Ev g q) : r = q := by
  obtain ⟨K, h⟩ := h
  obtain ⟨K', h'⟩ := h'
  have a := h (max K K') (Nat.le_max_left _ _)
  rw [h' (max K K') (Nat.le_max_right _ _)] at a
  exact (Option.some.inj a).symm

/-- A loop over 0 .. n-1 with a state. -/
theorem ev_fold {σ ρ : Type} {F : Nat → σ → Int → Option ρ} {n : Nat} {st : σ → Nat → σ} {out : σ → ρ} {Inv : σ → Nat → Prop}
    (hend : ∀ s, Inv s n → Ev (fun k => F k s (n : Int)) (out s))
    (hstep : ∀ s i, i < n → Inv s i → Inv (st s i) (i + 1) ∧ ∀ r, Ev (fun k => F k (st s i) ((i + 1 : Nat) : Int)) r → Ev (fun k => F k s (i : Int)) r) :
    ∀ d i s, i + d = n → Inv s i → Ev (fun k => F k s (i : Int)) (out ((List.range' i d).foldl st s)) := by
  intro d
  induction d with
  | zero =>
    intro i s hi hI
    obtain rfl : i = n := by omega
    simpa using hend s hI
  | succ d ih =>
    intro i s hi hI
    obtain ⟨hI', hs⟩ := hstep s i (by omega) hI
    rw [List.range'_succ, List.foldl_cons]
    exact hs _ (ih (i + 1) (st s i) (by omega) hI')

theorem fold_inv {σ : Type} {n : Nat} {st : σ → Nat → σ} {Inv : σ → Nat → Prop} (hstep : ∀ s i, i < n → Inv s i → Inv (st s i) (i + 1)) :
    ∀ d i s, i + d = n → Inv s i → Inv ((List.range' i d).foldl st s) n := by
  intro d
  induction d with
  | zero => intro i s hi h; obtain rfl : i = n := by omega
            simpa using h
  | succ d ih => intro i s hi h; rw [List.range'_succ, List.foldl_cons]; exact ih (i + 1) _ (by omega) (hstep s i (by omega) h)

/-- A loop over 0 .. n-1 that ends at the first i where p does not hold. -/
theorem ev_all {F : Nat → Int → Option Bool} {n : Nat} {p : Nat → Bool} {q : Bool}
    (hend : Ev (fun k => F k (n : Int)) q)
    (hno : ∀ i, i < n → p i = false → Ev (fun k => F k (i : Int)) false)
    (hstep : ∀ i r, i < n → p i = true → Ev (fun k => F k ((i + 1 : Nat) : Int)) r → Ev (fun k => F k (i : Int)) r) :
    ∀ d i, i + d = n → Ev (fun k => F k (i : Int)) ((List.range' i d).all p && q) := by
  intro d
  induction d with
  | zero =>
    intro i hi
    obtain rfl : i = n := by omega
    simpa using hend
  | succ d ih =>
    intro i hi
    rw [List.range'_succ, List.all_cons]
    cases hp : p i with
    | false => simpa using hno i (by omega) hp
    | true =>
      rw [Bool.true_and]
      exact hstep i _ (by omega) hp (ih (i + 1) (by omega))

/-- The same where each round takes one. -/
theorem ev_all1 {F : Nat → Int → Option Bool} {n : Nat} {p : Nat → Bool} {q : Bool}
    (hend : Ev (fun k => F k (n : Int)) q)
    (hstep : ∀ i k, i < n → F (k + 1) (i : Int) = if p i = true then F k ((i + 1 : Nat) : Int) else some false) :
    Ev (fun k => F k 0) ((List.range' 0 n).all p && q) :=
  ev_all (F := F) (n := n) (p := p) (q := q) hend (fun i hi hp => Ev.step (f := fun _ => some false) (fun k => by rw [hstep i k hi, hp]; simp) (Ev.now false))
    (fun i r hi hp h => Ev.step (fun k => by rw [hstep i k hi, hp]; simp) h) n 0 (by omega)

/-- A loop that fills a list, one place a round. -/
theorem ev_fill {β : Type} {F : Nat → List β → Int → Option (List β)} {n : Nat} {g : Nat → β}
    (hend : ∀ s : List β, s.length = n → Ev (fun k => F k s (n : Int)) s)
    (hstep : ∀ (s : List β) (i : Nat) (r : List β), i < n → s.length = n → Ev (fun k => F k (s.set i (g i)) ((i + 1 : Nat) : Int)) r → Ev (fun k => F k s (i : Int)) r)
    (s : List β) (hs : s.length = n) : Ev (fun k => F k s 0) ((List.range n).map g) := by
  have h := ev_fold (F := F) (n := n) (st := fun s i => s.set i (g i)) (out := fun s => s) (Inv := fun s i => s.length = n ∧ ∀ j, j < i → s[j]? = some (g j)) (fun s hI => hend s hI.1)
    (fun s i hi hI => ⟨⟨by rw [List.length_set]; exact hI.1, fun j hj => by
      by_cases hji : j = i
      · subst hji; rw [List.getElem?_set_self (by omega)]
      · rw [List.getElem?_set_ne (by omega)]; exact hI.2 j (by omega)⟩, fun r h => hstep s i r hi hI.1 h⟩) n 0 s (by omega) ⟨hs, fun j hj => absurd hj (Nat.not_lt_zero _)⟩
  have e : (List.range' 0 n).foldl (fun s i => s.set i (g i)) s = (List.range n).map g := by
    have key : ∀ d i (s : List β), s.length = n → i + d = n → (∀ j, j < i → s[j]? = some (g j)) → ∀ j, j < n → ((List.range' i d).foldl (fun s i => s.set i (g i)) s)[j]? = some (g j) ∧ ((List.range' i d).foldl (fun s i => s.set i (g i)) s).length = n := by
      intro d
      induction d with
      | zero => intro i s hs hi hj j hjn; simpa using ⟨hj j (by omega), hs⟩
      | succ d ih =>
        intro i s hs hi hj j hjn
        rw [List.range'_succ, List.foldl_cons]
        refine ih (i + 1) _ (by rw [List.length_set]; exact hs) (by omega) (fun j hj' => ?_) j hjn
        by_cases hji : j = i
        · subst hji; rw [List.getElem?_set_self (by omega)]
        · rw [List.getElem?_set_ne (by omega)]; exact hj j (by omega)
    apply List.ext_getElem?
    intro j
    by_cases hj : j < n
    · rw [(key n 0 s hs (by omega) (fun j hj => absurd hj (Nat.not_lt_zero _)) j hj).1]
      simp [hj]
    · have hl : ((List.range' 0 n).foldl (fun s i => s.set i (g i)) s).length = n := by
        by_cases h0 : n = 0
        · subst h0; simpa using hs
        · exact (key n 0 s hs (by omega) (fun j hj => absurd hj (Nat.not_lt_zero _)) 0 (by omega)).2
      rw [List.getElem?_eq_none (by omega)]
      simp [hj]
  rw [e] at h
  exact h

theorem map_range_getD {α β : Type} (l : List α) (d : α) (f : α → β) : ((List.range l.length).map fun i => f (l.getD i d)) = l.map f := by
  apply List.ext_getElem?
  intro i
  by_cases hi : i < l.length
  · simp [hi, List.getD]
  · simp [hi]

theorem sz_len {n : Nat} (hn : n ≤ 9223372036854775807) {L : Int} (h0 : 0 ≤ L) (hL : L ≤ 1048576) : wrap64 (L - (n : Int)) = L - n := by
  unfold wrap64; omega
end Go.Proofs.Ytfjjlipfjddaiaa.Base
/- Copying a list of Policys gives the list; a list of Policys equals itself.
   Conditions: none. -/
namespace Go.Proofs.Ytfjjlipfjddaiaa.Base
open Go.RowKit Go.Proofs.YtfjjlipfjddaiaaW.PrintWords Go.Proofs.YtfjjlipfjddaiaaW.PrintMore Go.Proofs.Ytfjjlipfjddaiaa.U
def cvPolicy (x : S125) : S96 := ⟨x.f0, x.f1, x.f2⟩
theorem ev_toPolicyS (l : List S125) (hl : l.length ≤ 1048576) : Ev (fun k => laws_toPolicyS.f k l) (l.map cvPolicy) := by
  unfold laws_toPolicyS.f
  refine Ev.pos (by omega) (Ev.pos (by simp; omega) ?_)
  have h := ev_fill (F := fun k s i => laws_toPolicyS.l0 k l s i) (n := l.length) (g := fun i => cvPolicy (l.getD i z125)) ?_ ?_ (List.replicate l.length z96) (by simp)
  · rw [map_range_getD] at h
    simpa using h
  · intro s hs
    exact Ev.step (f := fun _ => some s) (fun k => by simp only [laws_toPolicyS.l0]; rw [if_neg (by omega)]) (Ev.now s)
  · intro s i r hi hs h
    refine Ev.step (fun k => ?_) h
    simp only [laws_toPolicyS.l0, laws_toPolicy.f, Option.bind_some]
    rw [if_pos (by omega), if_pos (by omega), if_pos (by omega), wr_succ hi (by omega)]
    simp [cvPolicy, rd_T125]
theorem ev_eqPolicyS (l : List S96) (hl : l.length ≤ 1048576) : Ev (fun k => laws_eqPolicyS.f k l l) true := by
  unfold laws_eqPolicyS.f
  refine Ev.pos rfl ?_
  have h := ev_all (F := fun k i => laws_eqPolicyS.l0 k l l i) (n := l.length) (p := fun _ => true) (q := true) ?_ ?_ ?_ l.length 0 (by omega)
  · have e : (List.range' 0 l.length).all (fun _ => true) = true := by rw [List.all_eq_true]; intros; rfl
    rw [e] at h
    exact h
  · exact Ev.step (f := fun _ => some true) (fun k => by simp only [laws_eqPolicyS.l0]; rw [if_neg (by omega)]) (Ev.now true)
  · intro i _ h; cases h
  · intro i r hi _ h
    refine Ev.step (fun k => ?_) h
    simp only [laws_eqPolicyS.l0, laws_eqPolicy.f, if_true, Option.bind_some]
    rw [if_pos (by omega), if_pos (by omega), if_pos (by omega), wr_succ hi (by omega)]
end Go.Proofs.Ytfjjlipfjddaiaa.Base
/- Copying a Side or a Behave gives it; each equals itself; their sizes.
   Conditions: none. -/
namespace Go.Proofs.Ytfjjlipfjddaiaa.Base
open Go.RowKit Go.Proofs.YtfjjlipfjddaiaaW.PrintWords Go.Proofs.YtfjjlipfjddaiaaW.PrintMore Go.Proofs.Ytfjjlipfjddaiaa.U
theorem ev_toSide (l : List S125) (hl : l.length ≤ 1048576) (a b : Int) : Ev (fun k => laws_toSide.f k l a b) (l.map cvPolicy, a, b) := by
  unfold laws_toSide.f
  exact Ev.bind (ev_toPolicyS l hl) (Ev.now _)
theorem ev_toBehave (l : List S125) (hl : l.length ≤ 1048576) (a b : Int) (l' : List S125) (hl' : l'.length ≤ 1048576) (a' b' m n : Int) : Ev (fun k => laws_toBehave.f k l a b l' a' b' m n) (l.map cvPolicy, a, b, l'.map cvPolicy, a', b', m, n) := by
  unfold laws_toBehave.f
  exact Ev.bind (ev_toSide l hl a b) (Ev.bind (ev_toSide l' hl' a' b') (Ev.now _))
theorem ev_eqSide (l : List S96) (hl : l.length ≤ 1048576) (a b : Int) : Ev (fun k => laws_eqSide.f k l a b l a b) true := by
  unfold laws_eqSide.f
  exact Ev.bind (ev_eqPolicyS l hl) (Ev.pos rfl (Ev.pos rfl (Ev.pos rfl (Ev.now _))))
theorem ev_eqBehave (l : List S96) (hl : l.length ≤ 1048576) (a b : Int) (l' : List S96) (hl' : l'.length ≤ 1048576) (a' b' m n : Int) : Ev (fun k => laws_eqBehave.f k l a b l' a' b' m n l a b l' a' b' m n) true := by
  unfold laws_eqBehave.f
  exact Ev.bind (ev_eqSide l hl a b) (Ev.pos rfl (Ev.bind (ev_eqSide l' hl' a' b') (Ev.pos rfl (Ev.pos rfl (Ev.pos rfl (Ev.now _))))))
theorem szSide_ends (l : List S125) (hl : l.length ≤ 9223372036854775807) (a b L : Int) (h0 : 0 ≤ L) (hL : L ≤ 1048576) : laws_szSide.f l a b L = some (-1) ∨ ∃ L', laws_szSide.f l a b L = some L' ∧ 0 ≤ L' ∧ L' ≤ L ∧ l.length ≤ 1048576 := by
  unfold laws_szSide.f laws_szPolicyS.f
  rw [sz_len hl h0 hL]
  by_cases h : L - (l.length : Int) < 0
  · left; rw [if_pos h]; rfl
  · right; rw [if_neg h]; exact ⟨_, by rw [Option.bind_some, if_neg h], by omega, by omega, by omega⟩
theorem szBehave_ends (l : List S125) (hl : l.length ≤ 9223372036854775807) (a b : Int) (l' : List S125) (hl' : l'.length ≤ 9223372036854775807) (a' b' m n L : Int) (h0 : 0 ≤ L) (hL : L ≤ 1048576) : laws_szBehave.f l a b l' a' b' m n L = some (-1) ∨ ∃ L', laws_szBehave.f l a b l' a' b' m n L = some L' ∧ 0 ≤ L' ∧ L' ≤ L ∧ l.length ≤ 1048576 ∧ l'.length ≤ 1048576 := by
  unfold laws_szBehave.f
  rcases szSide_ends l hl a b L h0 hL with h | ⟨L1, h, h1, h2, h3⟩
  · left; rw [h]; rfl
  · rw [h, Option.bind_some, if_neg (by omega)]
    rcases szSide_ends l' hl' a' b' L1 h1 (by omega) with g | ⟨L2, g, g1, g2, g3⟩
    · left; rw [g]; rfl
    · right; rw [g, Option.bind_some, if_neg (by omega)]; exact ⟨L2, rfl, g1, by omega, h3, g3⟩
end Go.Proofs.Ytfjjlipfjddaiaa.Base
/- Copying a list of Moves gives the list; a list of Moves equals itself.
   Conditions: none. -/
namespace Go.Proofs.Ytfjjlipfjddaiaa.Base
open Go.RowKit Go.Proofs.YtfjjlipfjddaiaaW.PrintWords Go.Proofs.YtfjjlipfjddaiaaW.PrintMore Go.Proofs.Ytfjjlipfjddaiaa.U
def cvMove (x : S105) : S103 := ⟨x.f0, x.f1⟩
theorem ev_toMoveS (l : List S105) (hl : l.length ≤ 1048576) : Ev (fun k => laws_toMoveS.f k l) (l.map cvMove) := by
  unfold laws_toMoveS.f
  refine Ev.pos (by omega) (Ev.pos (by simp; omega) ?_)
  have h := ev_fill (F := fun k s i => laws_toMoveS.l0 k l s i) (n := l.length) (g := fun i => cvMove (l.getD i z105)) ?_ ?_ (List.replicate l.length z103) (by simp)
  · rw [map_range_getD] at h
    simpa using h
  · intro s hs
    exact Ev.step (f := fun _ => some s) (fun k => by simp only [laws_toMoveS.l0]; rw [if_neg (by omega)]) (Ev.now s)
  · intro s i r hi hs h
    refine Ev.step (fun k => ?_) h
    simp only [laws_toMoveS.l0, laws_toMove.f, Option.bind_some]
    rw [if_pos (by omega), if_pos (by omega), if_pos (by omega), wr_succ hi (by omega)]
    simp [cvMove, rd_T105]
theorem ev_eqMoveS (l : List S103) (hl : l.length ≤ 1048576) : Ev (fun k => laws_eqMoveS.f k l l) true := by
  unfold laws_eqMoveS.f
  refine Ev.pos rfl ?_
  have h := ev_all (F := fun k i => laws_eqMoveS.l0 k l l i) (n := l.length) (p := fun _ => true) (q := true) ?_ ?_ ?_ l.length 0 (by omega)
  · have e : (List.range' 0 l.length).all (fun _ => true) = true := by rw [List.all_eq_true]; intros; rfl
    rw [e] at h
    exact h
  · exact Ev.step (f := fun _ => some true) (fun k => by simp only [laws_eqMoveS.l0]; rw [if_neg (by omega)]) (Ev.now true)
  · intro i _ h; cases h
  · intro i r hi _ h
    refine Ev.step (fun k => ?_) h
    simp only [laws_eqMoveS.l0, laws_eqMove.f, if_true, Option.bind_some]
    rw [if_pos (by omega), if_pos (by omega), if_pos (by omega), wr_succ hi (by omega)]
end Go.Proofs.Ytfjjlipfjddaiaa.Base
/- Copying a list of Notes gives the list; a list of Notes equals itself.
   Conditions: none. -/
namespace Go.Proofs.Ytfjjlipfjddaiaa.Base
open Go.RowKit Go.Proofs.YtfjjlipfjddaiaaW.PrintWords Go.Proofs.YtfjjlipfjddaiaaW.PrintMore Go.Proofs.Ytfjjlipfjddaiaa.U
def cvNote (x : S111) : S109 := ⟨x.f0, x.f1⟩
theorem ev_toNoteS (l : List S111) (hl : l.length ≤ 1048576) : Ev (fun k => laws_toNoteS.f k l) (l.map cvNote) := by
  unfold laws_toNoteS.f
  refine Ev.pos (by omega) (Ev.pos (by simp; omega) ?_)
  have h := ev_fill (F := fun k s i => laws_toNoteS.l0 k l s i) (n := l.length) (g := fun i => cvNote (l.getD i z111)) ?_ ?_ (List.replicate l.length z109) (by simp)
  · rw [map_range_getD] at h
    simpa using h
  · intro s hs
    exact Ev.step (f := fun _ => some s) (fun k => by simp only [laws_toNoteS.l0]; rw [if_neg (by omega)]) (Ev.now s)
  · intro s i r hi hs h
    refine Ev.step (fun k => ?_) h
    simp only [laws_toNoteS.l0, laws_toNote.f, Option.bind_some]
    rw [if_pos (by omega), if_pos (by omega), if_pos (by omega), wr_succ hi (by omega)]
    simp [cvNote, rd_T111]
theorem ev_eqNoteS (l : List S109) (hl : l.length ≤ 1048576) : Ev (fun k => laws_eqNoteS.f k l l) true := by
  unfold laws_eqNoteS.f
  refine Ev.pos rfl ?_
  have h := ev_all (F := fun k i => laws_eqNoteS.l0 k l l i) (n := l.length) (p := fun _ => true) (q := true) ?_ ?_ ?_ l.length 0 (by omega)
  · have e : (List.range' 0 l.length).all (fun _ => true) = true := by rw [List.all_eq_true]; intros; rfl
    rw [e] at h
    exact h
  · exact Ev.step (f := fun _ => some true) (fun k => by simp only [laws_eqNoteS.l0]; rw [if_neg (by omega)]) (Ev.now true)
  · intro i _ h; cases h
  · intro i r hi _ h
    refine Ev.step (fun k => ?_) h
    simp only [laws_eqNoteS.l0, laws_eqNote.f, if_true, Option.bind_some]
    rw [if_pos (by omega), if_pos (by omega), if_pos (by omega), wr_succ hi (by omega)]
end Go.Proofs.Ytfjjlipfjddaiaa.Base
/- The tests of numbers: of the program and of the reference, one plain test each.
   Conditions: none. -/
namespace Go.Proofs.Ytfjjlipfjddaiaa.Base
open Go.RowKit Go.Proofs.YtfjjlipfjddaiaaW.PrintWords Go.Proofs.YtfjjlipfjddaiaaW.PrintMore Go.Proofs.Ytfjjlipfjddaiaa.U
theorem in_impl (a b c : Int) : impl_in.f a b c = some (decide (b ≤ a ∧ a ≤ c)) := by
  unfold impl_in.f
  by_cases h : a ≥ b
  · rw [if_pos h]; have h' : b ≤ a := h; simp [h']
  · rw [if_neg h]; have h' : ¬ b ≤ a := h; simp [h']
theorem in_spec (a b c : Int) : spec_l01In.f a b c = some (decide (b ≤ a ∧ a ≤ c)) := by
  unfold spec_l01In.f
  by_cases h : b ≤ a
  · rw [if_pos h]; simp [h]
  · rw [if_neg h]; simp [h]
theorem tick_impl (a : Int) : impl_isTick.f a = some (decide (0 ≤ a ∧ a ≤ 1000000000)) := by
  unfold impl_isTick.f; rw [in_impl]; rfl
theorem tick_spec (a : Int) : spec_l02Tick.f a = some (decide (0 ≤ a ∧ a ≤ 1000000000)) := by
  unfold spec_l02Tick.f; rw [in_spec]; rfl
theorem count_impl (a : Int) : impl_isCount.f a = some (decide (0 ≤ a ∧ a ≤ 1000)) := by
  unfold impl_isCount.f; rw [in_impl]; rfl
theorem count_spec (a : Int) : spec_l05Count.f a = some (decide (0 ≤ a ∧ a ≤ 1000)) := by
  unfold spec_l05Count.f; rw [in_spec]; rfl
end Go.Proofs.Ytfjjlipfjddaiaa.Base
/- SideOk and BehaveOk of the program and of the reference are one plain test each.
   Conditions: none. -/
namespace Go.Proofs.Ytfjjlipfjddaiaa.Base
open Go.RowKit Go.Proofs.YtfjjlipfjddaiaaW.PrintWords Go.Proofs.YtfjjlipfjddaiaaW.PrintMore Go.Proofs.Ytfjjlipfjddaiaa.U
def sdP (l : List S96) (i : Nat) : Bool := decide (0 ≤ (rd_T96 l i).f0 ∧ (rd_T96 l i).f0 ≤ 1) && (decide (1 ≤ (rd_T96 l i).f1 ∧ (rd_T96 l i).f1 ≤ 1000) && decide (1 ≤ (rd_T96 l i).f2 ∧ (rd_T96 l i).f2 ≤ 1000))
def sideOk (l : List S96) (sel win : Int) : Bool := (List.range' 0 l.length).all (sdP l) && (decide (l.length ≤ 3) && (decide (0 ≤ sel ∧ sel ≤ 2) && decide (0 ≤ win ∧ win ≤ 1000)))
def behaveOk (ul : List S96) (us uw : Int) (dl : List S96) (ds dw : Int) (mn_ mx_ : Int) : Bool := sideOk ul us uw && (sideOk dl ds dw && decide (0 ≤ mn_ ∧ mn_ ≤ mx_ ∧ mx_ ≤ 1000))
theorem and3_ite {α : Type} (a b c : Bool) (x y : α) : (if (a && (b && c)) = true then x else y) = if a = true then (if b = true then (if c = true then x else y) else y) else y := by
  cases a <;> cases b <;> cases c <;> rfl
theorem sideOk_spec (l : List S96) (sel win : Int) : Ev (fun k => spec_SideOk.f k l sel win) (sideOk l sel win) := by
  unfold spec_SideOk.f sideOk
  by_cases h : (l.length : Int) > 3
  · rw [decide_eq_false (show ¬ l.length ≤ 3 by omega), Bool.false_and, Bool.and_false]
    exact Ev.pos h (Ev.step (f := fun _ => some false) (fun k => by simp [spec_SideOk.j0]) (Ev.now false))
  · rw [decide_eq_true (show l.length ≤ 3 by omega), Bool.true_and]
    refine Ev.neg h ?_
    rw [in_spec, in_spec]
    refine Ev.bind0 rfl ?_
    by_cases h1 : 0 ≤ sel ∧ sel ≤ 2
    · rw [decide_eq_true h1, Bool.true_and]
      refine Ev.pos rfl (Ev.bind0 rfl ?_)
      by_cases h2 : 0 ≤ win ∧ win ≤ 1000
      · rw [decide_eq_true h2]
        refine Ev.step (f := fun k => spec_SideOk.l0 k 0 l sel win) (fun k => by simp [spec_SideOk.j0]) ?_
        refine ev_all1 (F := fun k i => spec_SideOk.l0 k i l sel win) (Ev.step (f := fun _ => some true) (fun k => by simp only [spec_SideOk.l0]; rw [if_neg (by omega)]) (Ev.now true)) ?_
        intro i k hi
        simp only [spec_SideOk.l0, in_spec, Option.bind_some]
        rw [if_pos (by omega), if_pos (by omega), wr_succ hi (by omega)]
        unfold sdP
        rw [and3_ite]
      · rw [decide_eq_false h2, Bool.and_false]
        exact Ev.step (f := fun _ => some false) (fun k => by simp [spec_SideOk.j0]) (Ev.now false)
    · rw [decide_eq_false h1, Bool.false_and, Bool.and_false]
      refine Ev.neg (by decide) ?_
      exact Ev.step (f := fun _ => some false) (fun k => by simp [spec_SideOk.j0]) (Ev.now false)
theorem sideOk_impl (l : List S96) (hl : l.length ≤ 1048576) (sel win : Int) : Ev (fun k => impl_SideOk.f k l sel win) (sideOk l sel win) := by
  unfold impl_SideOk.f sideOk
  refine ev_all1 (F := fun k i => impl_SideOk.l0 k l (l.length : Int) i l sel win) (Ev.step (f := fun _ => some (decide (l.length ≤ 3) && (decide (0 ≤ sel ∧ sel ≤ 2) && decide (0 ≤ win ∧ win ≤ 1000)))) (fun k => ?_) (Ev.now _)) ?_
  · simp only [impl_SideOk.l0, in_impl, Option.bind_some]
    rw [if_neg (by omega)]
    by_cases h : l.length ≤ 3
    · rw [if_pos (show (l.length : Int) ≤ 3 by omega), decide_eq_true h, Bool.true_and]
      by_cases h1 : 0 ≤ sel ∧ sel ≤ 2
      · rw [decide_eq_true h1, if_pos rfl, Bool.true_and]
      · rw [decide_eq_false h1, if_neg (by decide), Bool.false_and]
    · rw [if_neg (show ¬ (l.length : Int) ≤ 3 by omega), decide_eq_false h, Bool.false_and]
  · intro i k hi
    simp only [impl_SideOk.l0, in_impl, Option.bind_some]
    rw [if_pos (by omega), if_pos (by omega), if_pos (by omega), wr_succ hi (by omega)]
    unfold sdP
    rw [and3_ite]
theorem sideOk_facts {l : List S96} {sel win : Int} (h : sideOk l sel win = true) : l.length ≤ 3 ∧ (0 ≤ sel ∧ sel ≤ 2) ∧ (0 ≤ win ∧ win ≤ 1000) ∧ ∀ i : Nat, i < l.length → (0 ≤ (rd_T96 l i).f0 ∧ (rd_T96 l i).f0 ≤ 1) ∧ (1 ≤ (rd_T96 l i).f1 ∧ (rd_T96 l i).f1 ≤ 1000) ∧ (1 ≤ (rd_T96 l i).f2 ∧ (rd_T96 l i).f2 ≤ 1000) := by
  unfold sideOk at h
  rw [Bool.and_eq_true, Bool.and_eq_true, Bool.and_eq_true, List.all_eq_true] at h
  refine ⟨of_decide_eq_true h.2.1, of_decide_eq_true h.2.2.1, of_decide_eq_true h.2.2.2, fun i hi => ?_⟩
  have := h.1 i (by rw [List.mem_range'_1]; omega)
  unfold sdP at this
  rw [Bool.and_eq_true, Bool.and_eq_true] at this
  exact ⟨of_decide_eq_true this.1, of_decide_eq_true this.2.1, of_decide_eq_true this.2.2⟩
theorem behaveOk_spec (ul : List S96) (us uw : Int) (dl : List S96) (ds dw : Int) (m n : Int) : Ev (fun k => spec_BehaveOk.f k ul us uw dl ds dw m n) (behaveOk ul us uw dl ds dw m n) := by
  unfold spec_BehaveOk.f behaveOk
  refine Ev.bind (sideOk_spec ul us uw) ?_
  cases sideOk ul us uw with
  | false => exact Ev.neg (by decide) (Ev.now _)
  | true =>
    refine Ev.pos rfl (Ev.bind (sideOk_spec dl ds dw) ?_)
    cases sideOk dl ds dw with
    | false => exact Ev.neg (by decide) (Ev.now _)
    | true =>
      refine Ev.pos rfl ?_
      rw [in_spec, in_spec]
      refine Ev.bind0 rfl ?_
      by_cases h : 0 ≤ n ∧ n ≤ 1000
      · refine Ev.pos (decide_eq_true h) ?_
        have e : (decide (0 ≤ m ∧ m ≤ n)) = (true && (true && decide (0 ≤ m ∧ m ≤ n ∧ n ≤ 1000))) := by rw [Bool.true_and, Bool.true_and]; exact decide_eq_decide.2 (by omega)
        rw [← e]
        exact Ev.now _
      · rw [decide_eq_false (show ¬ (0 ≤ m ∧ m ≤ n ∧ n ≤ 1000) by omega)]
        exact Ev.neg (by simpa using h) (Ev.now _)
theorem behaveOk_impl (ul : List S96) (hu : ul.length ≤ 1048576) (us uw : Int) (dl : List S96) (hd : dl.length ≤ 1048576) (ds dw : Int) (m n : Int) : Ev (fun k => impl_BehaveOk.f k ul us uw dl ds dw m n) (behaveOk ul us uw dl ds dw m n) := by
  unfold impl_BehaveOk.f behaveOk
  refine Ev.bind (sideOk_impl ul hu us uw) ?_
  cases sideOk ul us uw with
  | false => exact Ev.neg (by decide) (Ev.now _)
  | true =>
    refine Ev.pos rfl (Ev.bind (sideOk_impl dl hd ds dw) ?_)
    cases sideOk dl ds dw with
    | false => exact Ev.neg (by decide) (Ev.now _)
    | true =>
      refine Ev.pos rfl ?_
      by_cases h : m ≥ 0
      · refine Ev.pos h ?_
        by_cases h1 : m ≤ n
        · refine Ev.pos h1 ?_
          have e : (decide (n ≤ 1000)) = (true && (true && decide (0 ≤ m ∧ m ≤ n ∧ n ≤ 1000))) := by rw [Bool.true_and, Bool.true_and]; exact decide_eq_decide.2 (by omega)
          rw [← e]
          exact Ev.now _
        · rw [decide_eq_false (show ¬ (0 ≤ m ∧ m ≤ n ∧ n ≤ 1000) by omega)]
          exact Ev.neg h1 (Ev.now _)
      · rw [decide_eq_false (show ¬ (0 ≤ m ∧ m ≤ n ∧ n ≤ 1000) by omega)]
        exact Ev.neg h (Ev.now _)
theorem behaveOk_facts {ul : List S96} {us uw : Int} {dl : List S96} {ds dw m n : Int} (h : behaveOk ul us uw dl ds dw m n = true) : sideOk ul us uw = true ∧ sideOk dl ds dw = true ∧ 0 ≤ m ∧ m ≤ n ∧ n ≤ 1000 := by
  unfold behaveOk at h
  rw [Bool.and_eq_true, Bool.and_eq_true] at h
  exact ⟨h.1, h.2.1, of_decide_eq_true h.2.2⟩
end Go.Proofs.Ytfjjlipfjddaiaa.Base
/- MovesOk of the program and of the reference are one plain test, and what it tells.
   Conditions: none. -/
namespace Go.Proofs.Ytfjjlipfjddaiaa.Base
open Go.RowKit Go.Proofs.YtfjjlipfjddaiaaW.PrintWords Go.Proofs.YtfjjlipfjddaiaaW.PrintMore Go.Proofs.Ytfjjlipfjddaiaa.U
def mvP (l : List S103) (i : Nat) : Bool := decide ((0 ≤ (rd_T103 l i).f0 ∧ (rd_T103 l i).f0 ≤ 1000000000) ∧ (-1000 ≤ (rd_T103 l i).f1 ∧ (rd_T103 l i).f1 ≤ 1000) ∧ (0 < i → (rd_T103 l ((i - 1 : Nat) : Int)).f0 ≤ (rd_T103 l i).f0))
def mvOk (l : List S103) : Bool := (List.range' 0 l.length).all (mvP l) && decide (l.length ≤ 200)
theorem mvP_ite {α : Type} (l : List S103) (i : Nat) (a b : α) : (if mvP l i = true then a else b) = if decide (0 ≤ (rd_T103 l i).f0 ∧ (rd_T103 l i).f0 ≤ 1000000000) = true then (if decide (-1000 ≤ (rd_T103 l i).f1 ∧ (rd_T103 l i).f1 ≤ 1000) = true then (if (i : Int) > 0 then (if (rd_T103 l ((i - 1 : Nat) : Int)).f0 > (rd_T103 l i).f0 then b else a) else a) else b) else b := by
  unfold mvP
  by_cases h1 : 0 ≤ (rd_T103 l i).f0 ∧ (rd_T103 l i).f0 ≤ 1000000000
  · by_cases h2 : -1000 ≤ (rd_T103 l i).f1 ∧ (rd_T103 l i).f1 ≤ 1000
    · by_cases h3 : 0 < i
      · by_cases h4 : (rd_T103 l ((i - 1 : Nat) : Int)).f0 ≤ (rd_T103 l i).f0
        · have h5 : ¬ (rd_T103 l ((i - 1 : Nat) : Int)).f0 > (rd_T103 l i).f0 := by omega
          have h6 : (i : Int) > 0 := by omega
          rw [if_pos (decide_eq_true ⟨h1, h2, fun _ => h4⟩), if_pos (decide_eq_true h1), if_pos (decide_eq_true h2), if_pos h6, if_neg h5]
        · have h5 : (rd_T103 l ((i - 1 : Nat) : Int)).f0 > (rd_T103 l i).f0 := by omega
          have h6 : (i : Int) > 0 := by omega
          rw [if_neg (by intro h; exact h4 ((of_decide_eq_true h).2.2 h3)), if_pos (decide_eq_true h1), if_pos (decide_eq_true h2), if_pos h6, if_pos h5]
      · have h6 : ¬ (i : Int) > 0 := by omega
        rw [if_pos (decide_eq_true ⟨h1, h2, fun h => absurd h h3⟩), if_pos (decide_eq_true h1), if_pos (decide_eq_true h2), if_neg h6]
    · rw [if_neg (by intro h; exact h2 (of_decide_eq_true h).2.1), if_pos (decide_eq_true h1), if_neg (by intro h; exact h2 (of_decide_eq_true h))]
  · rw [if_neg (by intro h; exact h1 (of_decide_eq_true h).1), if_neg (by intro h; exact h1 (of_decide_eq_true h))]
theorem mvOk_spec (l : List S103) (hl : l.length ≤ 1048576) : Ev (fun k => spec_MovesOk.f k l) (mvOk l) := by
  unfold spec_MovesOk.f mvOk
  by_cases h : (l.length : Int) > 200
  · rw [decide_eq_false (by omega), Bool.and_false]
    exact Ev.pos h (Ev.now false)
  · rw [decide_eq_true (by omega)]
    refine Ev.neg h (ev_all1 (F := fun k i => spec_MovesOk.l0 k l i) (Ev.step (f := fun _ => some true) (fun k => by simp only [spec_MovesOk.l0]; rw [if_neg (by omega)]) (Ev.now true)) ?_)
    intro i k hi
    simp only [spec_MovesOk.l0, tick_spec, in_spec, Option.bind_some]
    rw [if_pos (by omega), if_pos (by omega), wr_succ hi (by omega), mvP_ite]
    by_cases hp : (i : Int) > 0
    · rw [wr_pred (by omega) (by omega), if_pos (show (0 : Int) ≤ ((i - 1 : Nat) : Int) by omega), if_pos (show ((i - 1 : Nat) : Int) < (l.length : Int) by omega)]
    · simp only [if_neg hp]
theorem mvOk_impl (l : List S103) (hl : l.length ≤ 1048576) : Ev (fun k => impl_MovesOk.f k l) (mvOk l) := by
  unfold impl_MovesOk.f mvOk
  refine ev_all1 (F := fun k i => impl_MovesOk.l0 k l l (l.length : Int) i) (Ev.step (f := fun _ => some (decide (l.length ≤ 200))) (fun k => by simp only [impl_MovesOk.l0]; rw [if_neg (by omega)]; congr 1; exact decide_eq_decide.2 (by omega)) (Ev.now _)) ?_
  intro i k hi
  simp only [impl_MovesOk.l0, tick_impl, in_impl, Option.bind_some]
  rw [if_pos (by omega), if_pos (by omega), if_pos (by omega), wr_succ hi (by omega), mvP_ite]
  by_cases hp : (i : Int) > 0
  · rw [wr_pred (by omega) (by omega), if_pos (show (0 : Int) ≤ ((i - 1 : Nat) : Int) by omega), if_pos (show ((i - 1 : Nat) : Int) < (l.length : Int) by omega)]
  · simp only [if_neg hp]
/-- What MovesOk tells. -/
theorem mvOk_facts {l : List S103} (h : mvOk l = true) : l.length ≤ 200 ∧ ∀ i : Nat, i < l.length → (0 ≤ (rd_T103 l i).f0 ∧ (rd_T103 l i).f0 ≤ 1000000000) ∧ -1000 ≤ (rd_T103 l i).f1 ∧ (rd_T103 l i).f1 ≤ 1000 := by
  unfold mvOk at h
  rw [Bool.and_eq_true, List.all_eq_true] at h
  refine ⟨of_decide_eq_true h.2, fun i hi => ?_⟩
  have := of_decide_eq_true (h.1 i (by rw [List.mem_range'_1]; omega))
  exact ⟨this.1, this.2.1⟩
end Go.Proofs.Ytfjjlipfjddaiaa.Base
/- MovedIn of the program and of the reference are one plain function.
   Conditions: none. -/
namespace Go.Proofs.Ytfjjlipfjddaiaa.Base
open Go.RowKit Go.Proofs.YtfjjlipfjddaiaaW.PrintWords Go.Proofs.YtfjjlipfjddaiaaW.PrintMore Go.Proofs.Ytfjjlipfjddaiaa.U
def mvSt (l : List S103) (now per : Int) (s : Int × Int) (i : Nat) : Int × Int :=
  if now - per < (rd_T103 l i).f0 ∧ (rd_T103 l i).f0 ≤ now then (s.1 + mx 0 (rd_T103 l i).f1, s.2 + mx 0 (-(rd_T103 l i).f1)) else s
def movedIn (l : List S103) (now per : Int) : Int × Int :=
  if mvOk l = true ∧ (0 ≤ now ∧ now ≤ 1000000000) ∧ (0 ≤ per ∧ per ≤ 1000) then (List.range' 0 l.length).foldl (mvSt l now per) (0, 0) else (0, 0)
def MvInv (s : Int × Int) (i : Nat) : Prop := 0 ≤ s.1 ∧ s.1 ≤ 1000 * i ∧ 0 ≤ s.2 ∧ s.2 ≤ 1000 * i
theorem mvInv_step {l : List S103} (hf : ∀ i : Nat, i < l.length → (0 ≤ (rd_T103 l i).f0 ∧ (rd_T103 l i).f0 ≤ 1000000000) ∧ -1000 ≤ (rd_T103 l i).f1 ∧ (rd_T103 l i).f1 ≤ 1000) (now per : Int) (s : Int × Int) (i : Nat) (hi : i < l.length) (h : MvInv s i) : MvInv (mvSt l now per s i) (i + 1) := by
  obtain ⟨h1, h2, h3, h4⟩ := h
  obtain ⟨_, f1, f2⟩ := hf i hi
  unfold MvInv mvSt
  split
  · simp only [mx]
    refine ⟨?_, ?_, ?_, ?_⟩ <;> split <;> omega
  · refine ⟨?_, ?_, ?_, ?_⟩ <;> omega
theorem movedIn_bounds (l : List S103) (now per : Int) : 0 ≤ (movedIn l now per).1 ∧ (movedIn l now per).1 ≤ 200000 ∧ 0 ≤ (movedIn l now per).2 ∧ (movedIn l now per).2 ≤ 200000 := by
  unfold movedIn
  split
  · rename_i h
    obtain ⟨hl, hf⟩ := mvOk_facts h.1
    have := fold_inv (n := l.length) (st := mvSt l now per) (Inv := MvInv) (fun s i hi hI => mvInv_step hf now per s i hi hI) l.length 0 (0, 0) (by omega) ⟨by simp, by simp, by simp, by simp⟩
    obtain ⟨h1, h2, h3, h4⟩ := this
    refine ⟨h1, ?_, h3, ?_⟩ <;> omega
  · simp
theorem movedIn_spec (l : List S103) (hl : l.length ≤ 1048576) (now per : Int) : Ev (fun k => spec_MovedIn.f k l now per) (movedIn l now per) := by
  unfold spec_MovedIn.f
  refine Ev.bind (mvOk_spec l hl) ?_
  unfold movedIn
  by_cases h1 : mvOk l = true
  · refine Ev.pos h1 ?_
    rw [tick_spec]
    refine Ev.bind0 rfl ?_
    by_cases h2 : 0 ≤ now ∧ now ≤ 1000000000
    · refine Ev.pos (decide_eq_true h2) ?_
      rw [in_spec]
      refine Ev.bind0 rfl ?_
      by_cases h3 : 0 ≤ per ∧ per ≤ 1000
      · rw [if_pos ⟨h1, h2, h3⟩, decide_eq_true h3]
        obtain ⟨_, hf⟩ := mvOk_facts h1
        refine Ev.step (f := fun k => spec_MovedIn.l0 k l now per 0 0 0) (fun k => by simp [spec_MovedIn.j0]) ?_
        refine ev_fold (F := fun k s i => spec_MovedIn.l0 k l now per s.1 s.2 i) (n := l.length) (st := mvSt l now per) (out := fun s => s) (Inv := MvInv) ?_ ?_ l.length 0 (0, 0) (by omega) ⟨by simp, by simp, by simp, by simp⟩
        · intro s _
          exact Ev.step (f := fun _ => some s) (fun k => by simp only [spec_MovedIn.l0]; rw [if_neg (by omega)]) (Ev.now s)
        · intro s i hi hI
          refine ⟨mvInv_step hf now per s i hi hI, fun r h => ?_⟩
          obtain ⟨i1, i2, i3, i4⟩ := hI
          obtain ⟨⟨f1, f2⟩, f3, f4⟩ := hf i hi
          have hnp : wrap64 (now - per) = now - per := wr_id (by omega) (by omega)
          by_cases g1 : (rd_T103 l i).f0 ≤ now - per
          · refine Ev.step (f := fun k => spec_MovedIn.j2 k l now per s.1 s.2 i true) (fun k => by simp only [spec_MovedIn.l0]; rw [if_pos (by omega), if_pos (by omega), hnp, if_pos g1]) ?_
            refine Ev.step (fun k => ?_) h
            simp only [spec_MovedIn.j2, mvSt]
            rw [if_pos trivial, if_neg (by omega), wr_succ hi (by omega)]
          · by_cases g2 : (rd_T103 l i).f0 > now
            · refine Ev.step (f := fun k => spec_MovedIn.j2 k l now per s.1 s.2 i true) (fun k => by simp only [spec_MovedIn.l0]; rw [if_pos (by omega), if_pos (by omega), hnp, if_neg g1, decide_eq_true g2]) ?_
              refine Ev.step (fun k => ?_) h
              simp only [spec_MovedIn.j2, mvSt]
              rw [if_pos trivial, if_neg (by omega), wr_succ hi (by omega)]
            · refine Ev.step (f := fun k => spec_MovedIn.j2 k l now per s.1 s.2 i false) (fun k => by simp only [spec_MovedIn.l0]; rw [if_pos (by omega), if_pos (by omega), hnp, if_neg g1, decide_eq_false g2]) ?_
              refine Ev.step (fun k => ?_) h
              simp only [spec_MovedIn.j2, mvSt]
              rw [if_neg (by decide), if_pos (by omega), if_pos (by omega), wr_succ hi (by omega), if_pos (show now - per < (rd_T103 l i).f0 ∧ (rd_T103 l i).f0 ≤ now from ⟨by omega, by omega⟩)]
              by_cases g3 : (rd_T103 l i).f1 > 0
              · rw [if_pos g3, wr_id (by omega) (by omega)]
                simp only [mx]
                rw [if_pos (by omega), if_neg (by omega), Int.add_zero]
              · rw [if_neg g3, wr_id (by omega) (by omega)]
                simp only [mx]
                rw [if_neg (by omega), Int.add_zero]
                by_cases g4 : (rd_T103 l i).f1 = 0
                · rw [g4]; simp
                · rw [if_pos (by omega)]; congr 1
      · rw [if_neg (fun h => h3 h.2.2), decide_eq_false h3]
        exact Ev.step (f := fun _ => some (0, 0)) (fun k => by simp [spec_MovedIn.j0]) (Ev.now _)
    · rw [if_neg (fun h => h2 h.2.1)]
      refine Ev.neg (fun h => h2 (of_decide_eq_true h)) ?_
      exact Ev.step (f := fun _ => some (0, 0)) (fun k => by simp [spec_MovedIn.j0]) (Ev.now _)
  · rw [if_neg (fun h => h1 h.1)]
    refine Ev.neg h1 ?_
    exact Ev.step (f := fun _ => some (0, 0)) (fun k => by simp [spec_MovedIn.j0]) (Ev.now _)
theorem movedIn_impl (l : List S103) (hl : l.length ≤ 1048576) (now per : Int) : Ev (fun k => impl_MovedIn.f k l now per) (movedIn l now per) := by
  unfold impl_MovedIn.f
  refine Ev.bind (mvOk_impl l hl) ?_
  unfold movedIn
  by_cases h1 : mvOk l = true
  · refine Ev.pos h1 ?_
    rw [tick_impl]
    refine Ev.bind0 rfl ?_
    by_cases h2 : 0 ≤ now ∧ now ≤ 1000000000
    · refine Ev.pos (decide_eq_true h2) ?_
      rw [in_impl]
      refine Ev.bind0 rfl ?_
      by_cases h3 : 0 ≤ per ∧ per ≤ 1000
      · rw [if_pos ⟨h1, h2, h3⟩, decide_eq_true h3]
        obtain ⟨_, hf⟩ := mvOk_facts h1
        refine Ev.step (f := fun k => impl_MovedIn.l0 k now per 0 0 l (l.length : Int) 0) (fun k => by simp [impl_MovedIn.j0]) ?_
        refine ev_fold (F := fun k s i => impl_MovedIn.l0 k now per s.1 s.2 l (l.length : Int) i) (n := l.length) (st := mvSt l now per) (out := fun s => s) (Inv := MvInv) ?_ ?_ l.length 0 (0, 0) (by omega) ⟨by simp, by simp, by simp, by simp⟩
        · intro s _
          exact Ev.step (f := fun _ => some s) (fun k => by simp only [impl_MovedIn.l0]; rw [if_neg (by omega)]) (Ev.now s)
        · intro s i hi hI
          refine ⟨mvInv_step hf now per s i hi hI, fun r h => Ev.step (fun k => ?_) h⟩
          obtain ⟨i1, i2, i3, i4⟩ := hI
          obtain ⟨⟨f1, f2⟩, f3, f4⟩ := hf i hi
          have hnp : wrap64 (now - per) = now - per := wr_id (by omega) (by omega)
          simp only [impl_MovedIn.l0, mvSt]
          rw [if_pos (by omega), if_pos (by omega), if_pos (by omega), hnp, wr_succ hi (by omega)]
          by_cases g1 : (rd_T103 l i).f0 > now - per
          · rw [if_pos g1]
            by_cases g2 : (rd_T103 l i).f0 ≤ now
            · have e1 : wrap64 (-(rd_T103 l i).f1) = -(rd_T103 l i).f1 := wr_id (by omega) (by omega)
              have m1 : 0 ≤ mx 0 (rd_T103 l i).f1 ∧ mx 0 (rd_T103 l i).f1 ≤ 1000 := by unfold mx; split <;> omega
              have m2 : 0 ≤ mx 0 (-(rd_T103 l i).f1) ∧ mx 0 (-(rd_T103 l i).f1) ≤ 1000 := by unfold mx; split <;> omega
              rw [if_pos g2, if_pos ⟨g1, g2⟩, e1, wr_id (by omega) (by omega), wr_id (by omega) (by omega)]
            · rw [if_neg g2, if_neg (fun h => g2 h.2)]
          · rw [if_neg g1, if_neg (fun h => g1 h.1)]
      · rw [if_neg (fun h => h3 h.2.2), decide_eq_false h3]
        exact Ev.step (f := fun _ => some (0, 0)) (fun k => by simp [impl_MovedIn.j0]) (Ev.now _)
    · rw [if_neg (fun h => h2 h.2.1)]
      refine Ev.neg (fun h => h2 (of_decide_eq_true h)) ?_
      exact Ev.step (f := fun _ => some (0, 0)) (fun k => by simp [impl_MovedIn.j0]) (Ev.now _)
  · rw [if_neg (fun h => h1 h.1)]
    refine Ev.neg h1 ?_
    exact Ev.step (f := fun _ => some (0, 0)) (fun k => by simp [impl_MovedIn.j0]) (Ev.now _)
end Go.Proofs.Ytfjjlipfjddaiaa.Base
/- The plain laws of UpBound and DownBound: dividing, one policy's bound, the bounds of all policies.
   Conditions: none. -/
namespace Go.Proofs.Ytfjjlipfjddaiaa.Base
open Go.RowKit Go.Proofs.YtfjjlipfjddaiaaW.PrintWords Go.Proofs.YtfjjlipfjddaiaaW.PrintMore Go.Proofs.Ytfjjlipfjddaiaa.U
theorem tdiv100 {x : Int} (h : 0 ≤ x) : Int.tdiv x 100 = x / 100 := Int.tdiv_eq_ediv_of_nonneg h
theorem tmod100 {x : Int} (h : 0 ≤ x) : Int.tmod x 100 = x % 100 := Int.tmod_eq_emod_of_nonneg h
theorem ceil_spec {x : Int} (h : 0 ≤ x) (h' : x ≤ 1000000000000) : spec_CeilDiv.f x 100 = some ((x + 99) / 100) := by
  unfold spec_CeilDiv.f
  rw [if_neg (by omega), if_neg (by omega), tdiv100 h, tmod100 h, wr_id (x := x / 100) (by omega) (by omega)]
  by_cases g : x % 100 > 0
  · rw [if_pos g, wr_id (by omega) (by omega)]; congr 1; omega
  · rw [if_neg g]; congr 1; omega
theorem ceil_impl {x : Int} (h : 0 ≤ x) (h' : x ≤ 1000000000000) : impl_CeilDiv.f x 100 = some ((x + 99) / 100) := by
  unfold impl_CeilDiv.f
  rw [if_neg (by omega), if_neg (by omega), tdiv100 h, tmod100 h, wr_id (x := x / 100) (by omega) (by omega)]
  by_cases g : x % 100 > 0
  · rw [if_pos g, wr_id (by omega) (by omega)]; congr 1; omega
  · rw [if_neg g]; congr 1; omega
theorem floor_spec {x : Int} (h : 0 ≤ x) (h' : x ≤ 1000000000000) : spec_FloorDiv.f x 100 = some (x / 100) := by
  unfold spec_FloorDiv.f
  rw [if_neg (by omega), if_neg (by omega), tdiv100 h, tmod100 h, wr_id (x := x / 100) (by omega) (by omega), if_neg (by omega)]
theorem floor_impl {x : Int} (h : 0 ≤ x) (h' : x ≤ 1000000000000) : impl_FloorDiv.f x 100 = some (x / 100) := by
  unfold impl_FloorDiv.f
  rw [if_neg (by omega), if_neg (by omega), tdiv100 h, tmod100 h, wr_id (x := x / 100) (by omega) (by omega), if_neg (by omega)]
/-- The count at a period's beginning. -/
def baseOf (l : List S103) (now count per : Int) : Int := mx 0 (count - (movedIn l now per).1 + (movedIn l now per).2)
theorem baseOf_bounds (l : List S103) (now count per : Int) (hc : 0 ≤ count ∧ count ≤ 1000) : 0 ≤ baseOf l now count per ∧ baseOf l now count per ≤ 201000 := by
  obtain ⟨h1, h2, h3, h4⟩ := movedIn_bounds l now per
  unfold baseOf mx
  split <;> omega
theorem baseOf_wrap (l : List S103) (now count per : Int) (hc : 0 ≤ count ∧ count ≤ 1000) : wrap64 ((wrap64 (count - (movedIn l now per).1)) + (movedIn l now per).2) = count - (movedIn l now per).1 + (movedIn l now per).2 := by
  obtain ⟨h1, h2, h3, h4⟩ := movedIn_bounds l now per
  rw [wr_id (x := count - (movedIn l now per).1) (by omega) (by omega), wr_id (by omega) (by omega)]
def upX (base kind value : Int) : Int := mn 1000 (if kind = 1 then base + (base * value + 99) / 100 else base + value)
def dnX (base kind value : Int) : Int := if kind = 1 then (mn base 1000 * mx 0 (100 - value)) / 100 else mx 0 (mn base 1000 - value)
theorem mul_bounds {a b A B : Int} (ha : 0 ≤ a) (hb : 0 ≤ b) (hA : a ≤ A) (hB : b ≤ B) : 0 ≤ a * b ∧ a * b ≤ A * B :=
  ⟨Int.mul_nonneg ha hb, Int.mul_le_mul hA hB hb (by omega)⟩
theorem upX_bounds {base kind value : Int} (hb : 0 ≤ base ∧ base ≤ 201000) (hv : 1 ≤ value ∧ value ≤ 1000) : 0 ≤ upX base kind value ∧ upX base kind value ≤ 1000 := by
  obtain ⟨p0, p1⟩ := mul_bounds hb.1 (show 0 ≤ value by omega) hb.2 hv.2
  unfold upX mn
  split <;> split <;> omega
theorem dnX_bounds {base kind value : Int} (hb : 0 ≤ base ∧ base ≤ 201000) (hv : 1 ≤ value ∧ value ≤ 1000) : 0 ≤ dnX base kind value ∧ dnX base kind value ≤ 1000 := by
  have m1 : 0 ≤ mn base 1000 ∧ mn base 1000 ≤ 1000 := by unfold mn; split <;> omega
  have m2 : 0 ≤ mx 0 (100 - value) ∧ mx 0 (100 - value) ≤ 100 := by unfold mx; split <;> omega
  obtain ⟨p0, p1⟩ := mul_bounds m1.1 m2.1 m1.2 m2.2
  unfold dnX
  split
  · omega
  · unfold mx; split <;> omega
theorem upX_impl {base kind value per : Int} (hb : 0 ≤ base ∧ base ≤ 201000) (hv : 1 ≤ value ∧ value ≤ 1000) : impl_UpBound_1.f base kind value per = some (upX base kind value) := by
  obtain ⟨p0, p1⟩ := mul_bounds hb.1 (show 0 ≤ value by omega) hb.2 hv.2
  unfold impl_UpBound_1.f upX
  by_cases g : kind = 1
  · rw [if_pos g, if_pos g, wr_id (x := base * value) (by omega) (by omega), ceil_impl p0 (by omega), Option.bind_some, wr_id (by omega) (by omega)]
  · rw [if_neg g, if_neg g, wr_id (by omega) (by omega)]
theorem dnX_impl {base kind value per : Int} (hb : 0 ≤ base ∧ base ≤ 201000) (hv : 1 ≤ value ∧ value ≤ 1000) : impl_DownBound_1.f base kind value per = some (dnX base kind value) := by
  have m1 : 0 ≤ mn base 1000 ∧ mn base 1000 ≤ 1000 := by unfold mn; split <;> omega
  have m2 : 0 ≤ mx 0 (100 - value) ∧ mx 0 (100 - value) ≤ 100 := by unfold mx; split <;> omega
  obtain ⟨p0, p1⟩ := mul_bounds m1.1 m2.1 m1.2 m2.2
  unfold impl_DownBound_1.f dnX
  by_cases g : kind = 1
  · rw [if_pos g, if_pos g, wr_id (x := 100 - value) (by omega) (by omega), wr_id (by omega) (by omega), floor_impl p0 (by omega)]; rfl
  · rw [if_neg g, if_neg g, wr_id (by omega) (by omega)]
/-- What the reference reckons for one policy, before it is cut at 1000. -/
theorem upX_raw {base value : Int} (hb : 0 ≤ base ∧ base ≤ 201000) (hv : 1 ≤ value ∧ value ≤ 1000) : spec_CeilDiv.f (wrap64 (base * (wrap64 (100 + value)))) 100 = some (base + (base * value + 99) / 100) := by
  obtain ⟨p0, p1⟩ := mul_bounds hb.1 (show 0 ≤ value by omega) hb.2 hv.2
  have e : base * (100 + value) = base * 100 + base * value := Int.mul_add ..
  rw [wr_id (x := 100 + value) (by omega) (by omega), e, wr_id (by omega) (by omega), ceil_spec (by omega) (by omega)]
  congr 1; omega
/-- The least and the greatest of the policies' bounds. -/
def lmSt (x : Int → Int → Int → Int) (ps : List S96) (l : List S103) (now count : Int) (s : Int × Int) (i : Nat) : Int × Int :=
  (mn s.1 (x (baseOf l now count (rd_T96 ps i).f2) (rd_T96 ps i).f0 (rd_T96 ps i).f1), mx s.2 (x (baseOf l now count (rd_T96 ps i).f2) (rd_T96 ps i).f0 (rd_T96 ps i).f1))
def lmOf (x : Int → Int → Int → Int) (ps : List S96) (l : List S103) (now count : Int) : Int × Int := (List.range' 0 ps.length).foldl (lmSt x ps l now count) (1000, 0)
def LmInv (s : Int × Int) (_ : Nat) : Prop := 0 ≤ s.1 ∧ s.1 ≤ 1000 ∧ 0 ≤ s.2 ∧ s.2 ≤ 1000
theorem lmInv_step {x : Int → Int → Int → Int} {s : Int × Int} {i : Nat} (ps : List S96) (l : List S103) (now count : Int) (hx : 0 ≤ x (baseOf l now count (rd_T96 ps i).f2) (rd_T96 ps i).f0 (rd_T96 ps i).f1 ∧ x (baseOf l now count (rd_T96 ps i).f2) (rd_T96 ps i).f0 (rd_T96 ps i).f1 ≤ 1000) (h : LmInv s i) : LmInv (lmSt x ps l now count s i) (i + 1) := by
  obtain ⟨h1, h2, h3, h4⟩ := h
  unfold LmInv lmSt mn mx
  refine ⟨?_, ?_, ?_, ?_⟩ <;> (simp only; split <;> omega)
theorem lmOf_bounds {x : Int → Int → Int → Int} (hx : ∀ b k v, (0 ≤ b ∧ b ≤ 201000) → (1 ≤ v ∧ v ≤ 1000) → 0 ≤ x b k v ∧ x b k v ≤ 1000) {ps : List S96} {sel win : Int} (hs : sideOk ps sel win = true) (l : List S103) (now count : Int) (hc : 0 ≤ count ∧ count ≤ 1000) : LmInv (lmOf x ps l now count) ps.length := by
  obtain ⟨_, _, _, hf⟩ := sideOk_facts hs
  exact fold_inv (n := ps.length) (st := lmSt x ps l now count) (Inv := LmInv) (fun s i hi hI => lmInv_step ps l now count (hx _ _ _ (baseOf_bounds l now count _ hc) (hf i hi).2.1) hI) ps.length 0 (1000, 0) (by omega) ⟨by simp, by simp, by simp, by simp⟩
def BdOk (ps : List S96) (sel win : Int) (l : List S103) (now count : Int) : Prop := sideOk ps sel win = true ∧ mvOk l = true ∧ (0 ≤ now ∧ now ≤ 1000000000) ∧ (0 ≤ count ∧ count ≤ 1000)
instance (ps : List S96) (sel win : Int) (l : List S103) (now count : Int) : Decidable (BdOk ps sel win l now count) := by unfold BdOk; infer_instance
def upBound (ps : List S96) (sel win : Int) (l : List S103) (now count : Int) : Int :=
  if BdOk ps sel win l now count then (if sel = 2 then count else if ps.length = 0 then 1000 else if sel = 0 then mx count (lmOf upX ps l now count).2 else mx count (lmOf upX ps l now count).1) else -1
def downBound (ps : List S96) (sel win : Int) (l : List S103) (now count : Int) : Int :=
  if BdOk ps sel win l now count then (if sel = 2 then count else if ps.length = 0 then 0 else if sel = 0 then mn count (lmOf dnX ps l now count).1 else mn count (lmOf dnX ps l now count).2) else -1
theorem upBound_facts {ps : List S96} {sel win : Int} {l : List S103} {now count : Int} (h : BdOk ps sel win l now count) : count ≤ upBound ps sel win l now count ∧ upBound ps sel win l now count ≤ 1000 ∧ (sel = 2 → upBound ps sel win l now count = count) := by
  have hb := lmOf_bounds (x := upX) (fun b k v h1 h2 => upX_bounds h1 h2) h.1 l now count h.2.2.2
  obtain ⟨b1, b2, b3, b4⟩ := hb
  obtain ⟨_, _, _, c1, c2⟩ := h
  unfold upBound
  rw [if_pos ⟨‹_›, ‹_›, ‹_›, c1, c2⟩]
  by_cases g : sel = 2
  · rw [if_pos g]; exact ⟨by omega, by omega, fun _ => rfl⟩
  · rw [if_neg g]
    refine ⟨?_, ?_, fun h => absurd h g⟩ <;> (split; omega; unfold mx; split <;> split <;> omega)
theorem downBound_facts {ps : List S96} {sel win : Int} {l : List S103} {now count : Int} (h : BdOk ps sel win l now count) : downBound ps sel win l now count ≤ count ∧ 0 ≤ downBound ps sel win l now count ∧ (sel = 2 → downBound ps sel win l now count = count) := by
  have hb := lmOf_bounds (x := dnX) (fun b k v h1 h2 => dnX_bounds h1 h2) h.1 l now count h.2.2.2
  obtain ⟨b1, b2, b3, b4⟩ := hb
  obtain ⟨_, _, _, c1, c2⟩ := h
  unfold downBound
  rw [if_pos ⟨‹_›, ‹_›, ‹_›, c1, c2⟩]
  by_cases g : sel = 2
  · rw [if_pos g]; exact ⟨by omega, by omega, fun _ => rfl⟩
  · rw [if_neg g]
    refine ⟨?_, ?_, fun h => absurd h g⟩ <;> (split; omega; unfold mn; split <;> split <;> omega)
end Go.Proofs.Ytfjjlipfjddaiaa.Base
/- UpBound of the program and of the reference are one plain function.
   Conditions: none. -/
namespace Go.Proofs.Ytfjjlipfjddaiaa.Base
open Go.RowKit Go.Proofs.YtfjjlipfjddaiaaW.PrintWords Go.Proofs.YtfjjlipfjddaiaaW.PrintMore Go.Proofs.Ytfjjlipfjddaiaa.U
theorem base_spec (l : List S103) (hl : l.length ≤ 1048576) (now count per k0 v0 : Int) (hc : 0 ≤ count ∧ count ≤ 1000) : Ev (fun k => spec_l06Base.f k k0 v0 per l now count) (baseOf l now count per) := by
  unfold spec_l06Base.f
  refine Ev.bind (movedIn_spec l hl now per) ?_
  simp only [baseOf_wrap l now count per hc]
  unfold baseOf
  generalize count - (movedIn l now per).1 + (movedIn l now per).2 = x
  by_cases h : x < 0
  · rw [show mx 0 x = 0 by unfold mx; rw [if_neg (by omega)]]; exact Ev.pos h (Ev.now _)
  · rw [show mx 0 x = x by unfold mx; split <;> omega]; exact Ev.neg h (Ev.now _)
theorem good_spec (ps : List S96) (sel win : Int) (l : List S103) (hl : l.length ≤ 1048576) (now count : Int) : Ev (fun k => spec_l06Good.f k ps sel win l now count) (decide (BdOk ps sel win l now count)) := by
  unfold spec_l06Good.f
  refine Ev.bind (sideOk_spec ps sel win) ?_
  by_cases h0 : sideOk ps sel win = true
  case neg => rw [show decide (BdOk ps sel win l now count) = false from decide_eq_false (fun h => h0 h.1)]; exact Ev.neg h0 (Ev.now _)
  refine Ev.pos h0 (Ev.bind (mvOk_spec l hl) ?_)
  by_cases h1 : mvOk l = true
  case neg => rw [show decide (BdOk ps sel win l now count) = false from decide_eq_false (fun h => h1 h.2.1)]; exact Ev.neg h1 (Ev.now _)
  refine Ev.pos h1 ?_
  rw [tick_spec, count_spec]
  refine Ev.bind0 rfl ?_
  by_cases h2 : 0 ≤ now ∧ now ≤ 1000000000
  case neg => rw [show decide (BdOk ps sel win l now count) = false from decide_eq_false (fun h => h2 h.2.2.1)]; exact Ev.neg (fun h => h2 (of_decide_eq_true h)) (Ev.now _)
  refine Ev.pos (decide_eq_true h2) (Ev.bind0 rfl ?_)
  rw [show decide (BdOk ps sel win l now count) = decide (0 ≤ count ∧ count ≤ 1000) from decide_eq_decide.2 ⟨fun h => h.2.2.2, fun h => ⟨h0, h1, h2, h⟩⟩]
  exact Ev.now _
theorem boundsUp_impl (ps : List S96) (sel win : Int) (hs : sideOk ps sel win = true) (l : List S103) (hl : l.length ≤ 1048576) (now count z : Int) (hc : 0 ≤ count ∧ count ≤ 1000) : Ev (fun k => impl_boundsUp.f k ps sel win l now count z) (lmOf upX ps l now count) := by
  unfold impl_boundsUp.f
  obtain ⟨hp, _, _, hf⟩ := sideOk_facts hs
  refine ev_fold (F := fun k s i => impl_boundsUp.l0 k l now count s.1 s.2 ps (ps.length : Int) i) (n := ps.length) (st := lmSt upX ps l now count) (out := fun s => s) (Inv := fun _ _ => True) ?_ ?_ ps.length 0 (1000, 0) (by omega) trivial
  · intro s _
    exact Ev.step (f := fun _ => some s) (fun k => by simp only [impl_boundsUp.l0]; rw [if_neg (by omega)]) (Ev.now s)
  · intro s i hi _
    refine ⟨trivial, fun r h => ?_⟩
    refine Ev.step (f := fun k => (impl_MovedIn.f k l now (rd_T96 ps i).f2).bind fun b => impl_boundsUp.l0 k l now count (lmSt upX ps l now count s i).1 (lmSt upX ps l now count s i).2 ps (ps.length : Int) ((i + 1 : Nat) : Int)) (fun k => ?_) (Ev.bind (movedIn_impl l hl now _) h)
    simp only [impl_boundsUp.l0]
    rw [if_pos (by omega), if_pos (by omega), if_pos (by omega), wr_succ hi (by omega)]
    cases hm : impl_MovedIn.f k l now (rd_T96 ps i).f2 with
    | none => rfl
    | some b =>
      obtain rfl : movedIn l now (rd_T96 ps i).f2 = b := Ev.unique (movedIn_impl l hl now _) (Ev.of (g := fun k => impl_MovedIn.f k l now (rd_T96 ps i).f2) (fun k => impl_MovedIn.mono _ _ _ k) hm)
      simp only [Option.bind_some]
      rw [baseOf_wrap l now count _ hc]
      have e := upX_impl (kind := (rd_T96 ps i).f0) (per := (rd_T96 ps i).f2) (baseOf_bounds l now count (rd_T96 ps i).f2 hc) (hf i hi).2.1
      unfold baseOf at e
      rw [e]
      rfl
theorem upBound_impl (ps : List S96) (hps : ps.length ≤ 1048576) (sel win : Int) (l : List S103) (hl : l.length ≤ 1048576) (now count : Int) : Ev (fun k => impl_UpBound.f k ps sel win l now count) (upBound ps sel win l now count) := by
  unfold impl_UpBound.f
  refine Ev.bind (sideOk_impl ps hps sel win) ?_
  by_cases h0 : sideOk ps sel win = true
  case neg => rw [show upBound ps sel win l now count = -1 from if_neg (fun h => h0 h.1)]; exact Ev.neg h0 (Ev.step (f := fun _ => some (-1)) (fun k => by simp [impl_UpBound.j0]) (Ev.now _))
  refine Ev.pos h0 (Ev.bind (mvOk_impl l hl) ?_)
  by_cases h1 : mvOk l = true
  case neg => rw [show upBound ps sel win l now count = -1 from if_neg (fun h => h1 h.2.1)]; exact Ev.neg h1 (Ev.step (f := fun _ => some (-1)) (fun k => by simp [impl_UpBound.j0]) (Ev.now _))
  refine Ev.pos h1 ?_
  rw [tick_impl, count_impl]
  refine Ev.bind0 rfl ?_
  by_cases h2 : 0 ≤ now ∧ now ≤ 1000000000
  case neg => rw [show upBound ps sel win l now count = -1 from if_neg (fun h => h2 h.2.2.1)]; exact Ev.neg (fun h => h2 (of_decide_eq_true h)) (Ev.step (f := fun _ => some (-1)) (fun k => by simp [impl_UpBound.j0]) (Ev.now _))
  refine Ev.pos (decide_eq_true h2) (Ev.bind0 rfl ?_)
  by_cases h3 : 0 ≤ count ∧ count ≤ 1000
  case neg => rw [show upBound ps sel win l now count = -1 from if_neg (fun h => h3 h.2.2.2), decide_eq_false h3]; exact Ev.step (f := fun _ => some (-1)) (fun k => by simp [impl_UpBound.j0]) (Ev.now _)
  rw [show upBound ps sel win l now count = _ from if_pos ⟨h0, h1, h2, h3⟩, decide_eq_true h3]
  refine Ev.step (f := fun k => (if sel = 2 then (some count) else (if (ps.length : Int) = 0 then (some 1000) else ((impl_boundsUp.f k ps sel win l now count 0).bind fun b => (if sel = 0 then (some (mx count b.2)) else (some (mx count b.1))))))) (fun k => by simp [impl_UpBound.j0]) ?_
  by_cases g : sel = 2
  · rw [if_pos g]; exact Ev.pos g (Ev.now _)
  · rw [if_neg g]
    refine Ev.neg g ?_
    by_cases g1 : ps.length = 0
    · rw [if_pos g1]; exact Ev.pos (by omega) (Ev.now _)
    · rw [if_neg g1]
      refine Ev.neg (by omega) (Ev.bind (boundsUp_impl ps sel win h0 l hl now count 0 h3) ?_)
      by_cases g2 : sel = 0
      · simp only [if_pos g2]; exact Ev.now _
      · simp only [if_neg g2]; exact Ev.now _
/-- The reference's bound so far. -/
def ubSoFar (sel : Int) (s : Int × Int) (i : Int) : Int := if i = 0 then -1 else if sel = 0 then s.2 else s.1
theorem upJ1 (k : Nat) (l : List S103) (now count b i x : Int) (ps : List S96) (sel win : Int) : spec_UpBound.j1 (k + 1) l now count b i x ps sel win = spec_UpBound.l0 k l now count (if b < 0 ∨ (sel = 0 ∧ mn 1000 x > b) ∨ (sel = 1 ∧ mn 1000 x < b) then mn 1000 x else b) (wrap64 (i + 1)) ps sel win := by
  simp only [spec_UpBound.j1]
  have e : ∀ y : Int, (if b < 0 then (spec_UpBound.l0 k l now count y (wrap64 (i + 1)) ps sel win) else (if sel = 0 then (if y > b then (spec_UpBound.l0 k l now count y (wrap64 (i + 1)) ps sel win) else (if sel = 1 then (if y < b then (spec_UpBound.l0 k l now count y (wrap64 (i + 1)) ps sel win) else (spec_UpBound.l0 k l now count b (wrap64 (i + 1)) ps sel win)) else (spec_UpBound.l0 k l now count b (wrap64 (i + 1)) ps sel win))) else (if sel = 1 then (if y < b then (spec_UpBound.l0 k l now count y (wrap64 (i + 1)) ps sel win) else (spec_UpBound.l0 k l now count b (wrap64 (i + 1)) ps sel win)) else (spec_UpBound.l0 k l now count b (wrap64 (i + 1)) ps sel win)))) = spec_UpBound.l0 k l now count (if b < 0 ∨ (sel = 0 ∧ y > b) ∨ (sel = 1 ∧ y < b) then y else b) (wrap64 (i + 1)) ps sel win := by
    intro y
    by_cases h1 : b < 0
    · rw [if_pos h1, if_pos (.inl h1)]
    · rw [if_neg h1]
      by_cases h2 : sel = 0
      · rw [if_pos h2]
        by_cases h3 : y > b
        · rw [if_pos h3, if_pos (.inr (.inl ⟨h2, h3⟩))]
        · rw [if_neg h3, if_neg (show ¬ sel = 1 by omega), if_neg (by omega)]
      · rw [if_neg h2]
        by_cases h3 : sel = 1
        · rw [if_pos h3]
          by_cases h4 : y < b
          · rw [if_pos h4, if_pos (.inr (.inr ⟨h3, h4⟩))]
          · rw [if_neg h4, if_neg (by omega)]
        · rw [if_neg h3, if_neg (by omega)]
  unfold mn
  by_cases hx : x > 1000
  · rw [if_pos hx, e 1000, if_neg (show ¬ x < 1000 by omega)]
  · by_cases hx' : x < 1000
    · rw [if_neg hx, e x, if_pos hx']
    · obtain rfl : x = 1000 := by omega
      rw [if_neg hx, e 1000, if_neg hx']
theorem upBound_spec (ps : List S96) (sel win : Int) (l : List S103) (hl : l.length ≤ 1048576) (now count : Int) : Ev (fun k => spec_UpBound.f k ps sel win l now count) (upBound ps sel win l now count) := by
  unfold spec_UpBound.f
  refine Ev.bind (good_spec ps sel win l hl now count) ?_
  by_cases h : BdOk ps sel win l now count
  case neg => rw [show upBound ps sel win l now count = -1 from if_neg h]; exact Ev.neg (fun g => h (of_decide_eq_true g)) (Ev.now _)
  refine Ev.pos (decide_eq_true h) ?_
  rw [show upBound ps sel win l now count = _ from if_pos h]
  by_cases g : sel = 2
  · rw [if_pos g]; exact Ev.pos g (Ev.now _)
  rw [if_neg g]
  refine Ev.neg g ?_
  by_cases g1 : ps.length = 0
  · rw [if_pos g1]; exact Ev.pos (by omega) (Ev.now _)
  rw [if_neg g1]
  refine Ev.neg (by omega) ?_
  obtain ⟨hs, hm, hn, hc⟩ := h
  obtain ⟨hp, hsel, _, hf⟩ := sideOk_facts hs
  have hE := ev_fold (F := fun k s i => spec_UpBound.l0 k l now count (ubSoFar sel s i) i ps sel win) (n := ps.length) (st := lmSt upX ps l now count)
    (out := fun s => if sel = 0 then mx count s.2 else mx count s.1) (Inv := fun s i => LmInv s i ∧ (i = 0 → s = (1000, 0))) ?_ ?_ ps.length 0 (1000, 0) (by omega) ⟨⟨by simp, by simp, by simp, by simp⟩, fun _ => rfl⟩
  · have e : ubSoFar sel (1000, 0) ((0 : Nat) : Int) = -1 := by simp [ubSoFar]
    simp only [e] at hE
    exact hE
  · intro s _
    refine Ev.step (f := fun _ => some (if sel = 0 then mx count s.2 else mx count s.1)) (fun k => ?_) (Ev.now _)
    simp only [spec_UpBound.l0, ubSoFar, if_neg (show ¬ (ps.length : Int) = 0 by omega), if_neg (show ¬ (ps.length : Int) < (ps.length : Int) by omega)]
    unfold mx
    by_cases g2 : sel = 0
    · simp only [if_pos g2]
      by_cases g3 : s.2 < count
      · rw [if_pos g3, if_neg (by omega)]
      · rw [if_neg g3]; split; rfl; congr 1; omega
    · simp only [if_neg g2]
      by_cases g3 : s.1 < count
      · rw [if_pos g3, if_neg (by omega)]
      · rw [if_neg g3]; split; rfl; congr 1; omega
  · intro s i hi hI
    obtain ⟨_, hv, _⟩ := hf i hi
    have hb := baseOf_bounds l now count (rd_T96 ps i).f2 hc
    have hx := upX_bounds (kind := (rd_T96 ps i).f0) hb hv
    refine ⟨⟨lmInv_step ps l now count hx hI.1, fun h => absurd h (Nat.succ_ne_zero i)⟩, fun r hr => ?_⟩
    obtain ⟨⟨i1, i2, i3, i4⟩, i5⟩ := hI
    refine Ev.step (f := fun k => (spec_l06Base.f k (rd_T96 ps i).f0 (rd_T96 ps i).f1 (rd_T96 ps i).f2 l now count).bind fun t => (if (rd_T96 ps i).f0 = 1 then ((spec_CeilDiv.f (wrap64 (t * (wrap64 (100 + ((rd_T96 ps i).f1))))) 100).bind fun u => (spec_UpBound.j1 k l now count (ubSoFar sel s i) i u ps sel win)) else (spec_UpBound.j1 k l now count (ubSoFar sel s i) i (wrap64 (t + ((rd_T96 ps i).f1))) ps sel win))) (fun k => by simp only [spec_UpBound.l0]; rw [if_pos (by omega), if_pos (by omega)]) ?_
    refine Ev.bind (base_spec l hl now count (rd_T96 ps i).f2 _ _ hc) ?_
    have key : ∀ x : Int, mn 1000 x = upX (baseOf l now count (rd_T96 ps i).f2) (rd_T96 ps i).f0 (rd_T96 ps i).f1 → Ev (fun k => spec_UpBound.j1 k l now count (ubSoFar sel s i) i x ps sel win) r := by
      intro x hxe
      refine Ev.step (fun k => ?_) hr
      rw [upJ1, wr_succ hi (by omega), hxe]
      congr 1
      unfold ubSoFar lmSt
      simp only
      rw [if_neg (show ¬ ((i + 1 : Nat) : Int) = 0 by omega)]
      generalize upX (baseOf l now count (rd_T96 ps i).f2) (rd_T96 ps i).f0 (rd_T96 ps i).f1 = y at *
      unfold mn mx
      by_cases j0 : (i : Int) = 0
      · obtain rfl := i5 (by omega)
        rw [if_pos j0, if_pos (by omega)]
        by_cases j1 : sel = 0
        · rw [if_pos j1]; split <;> omega
        · rw [if_neg j1]; split <;> omega
      · rw [if_neg j0]
        by_cases j1 : sel = 0
        · rw [if_pos j1, if_pos j1]; split <;> split <;> omega
        · rw [if_neg j1, if_neg j1]; split <;> split <;> omega
    by_cases j : (rd_T96 ps i).f0 = 1
    · refine Ev.pos j ?_
      rw [upX_raw hb hv]
      refine Ev.bind0 rfl (key _ ?_)
      unfold upX; rw [if_pos j]
    · refine Ev.neg j (key _ ?_)
      rw [wr_id (by omega) (by omega)]
      unfold upX; rw [if_neg j]
end Go.Proofs.Ytfjjlipfjddaiaa.Base
/- DownBound of the program and of the reference are one plain function.
   Conditions: none. -/
namespace Go.Proofs.Ytfjjlipfjddaiaa.Base
open Go.RowKit Go.Proofs.YtfjjlipfjddaiaaW.PrintWords Go.Proofs.YtfjjlipfjddaiaaW.PrintMore Go.Proofs.Ytfjjlipfjddaiaa.U
theorem boundsDown_impl (ps : List S96) (sel win : Int) (hs : sideOk ps sel win = true) (l : List S103) (hl : l.length ≤ 1048576) (now count z : Int) (hc : 0 ≤ count ∧ count ≤ 1000) : Ev (fun k => impl_boundsDown.f k ps sel win l now count z) (lmOf dnX ps l now count) := by
  unfold impl_boundsDown.f
  obtain ⟨hp, _, _, hf⟩ := sideOk_facts hs
  refine ev_fold (F := fun k s i => impl_boundsDown.l0 k l now count s.1 s.2 ps (ps.length : Int) i) (n := ps.length) (st := lmSt dnX ps l now count) (out := fun s => s) (Inv := fun _ _ => True) ?_ ?_ ps.length 0 (1000, 0) (by omega) trivial
  · intro s _
    exact Ev.step (f := fun _ => some s) (fun k => by simp only [impl_boundsDown.l0]; rw [if_neg (by omega)]) (Ev.now s)
  · intro s i hi _
    refine ⟨trivial, fun r h => ?_⟩
    refine Ev.step (f := fun k => (impl_MovedIn.f k l now (rd_T96 ps i).f2).bind fun b => impl_boundsDown.l0 k l now count (lmSt dnX ps l now count s i).1 (lmSt dnX ps l now count s i).2 ps (ps.length : Int) ((i + 1 : Nat) : Int)) (fun k => ?_) (Ev.bind (movedIn_impl l hl now _) h)
    simp only [impl_boundsDown.l0]
    rw [if_pos (by omega), if_pos (by omega), if_pos (by omega), wr_succ hi (by omega)]
    cases hm : impl_MovedIn.f k l now (rd_T96 ps i).f2 with
    | none => rfl
    | some b =>
      obtain rfl : movedIn l now (rd_T96 ps i).f2 = b := Ev.unique (movedIn_impl l hl now _) (Ev.of (g := fun k => impl_MovedIn.f k l now (rd_T96 ps i).f2) (fun k => impl_MovedIn.mono _ _ _ k) hm)
      simp only [Option.bind_some]
      rw [baseOf_wrap l now count _ hc]
      have e := dnX_impl (kind := (rd_T96 ps i).f0) (per := (rd_T96 ps i).f2) (baseOf_bounds l now count (rd_T96 ps i).f2 hc) (hf i hi).2.1
      unfold baseOf at e
      rw [e]
      rfl
theorem downBound_impl (ps : List S96) (hps : ps.length ≤ 1048576) (sel win : Int) (l : List S103) (hl : l.length ≤ 1048576) (now count : Int) : Ev (fun k => impl_DownBound.f k ps sel win l now count) (downBound ps sel win l now count) := by
  unfold impl_DownBound.f
  refine Ev.bind (sideOk_impl ps hps sel win) ?_
  by_cases h0 : sideOk ps sel win = true
  case neg => rw [show downBound ps sel win l now count = -1 from if_neg (fun h => h0 h.1)]; exact Ev.neg h0 (Ev.step (f := fun _ => some (-1)) (fun k => by simp [impl_DownBound.j0]) (Ev.now _))
  refine Ev.pos h0 (Ev.bind (mvOk_impl l hl) ?_)
  by_cases h1 : mvOk l = true
  case neg => rw [show downBound ps sel win l now count = -1 from if_neg (fun h => h1 h.2.1)]; exact Ev.neg h1 (Ev.step (f := fun _ => some (-1)) (fun k => by simp [impl_DownBound.j0]) (Ev.now _))
  refine Ev.pos h1 ?_
  rw [tick_impl, count_impl]
  refine Ev.bind0 rfl ?_
  by_cases h2 : 0 ≤ now ∧ now ≤ 1000000000
  case neg => rw [show downBound ps sel win l now count = -1 from if_neg (fun h => h2 h.2.2.1)]; exact Ev.neg (fun h => h2 (of_decide_eq_true h)) (Ev.step (f := fun _ => some (-1)) (fun k => by simp [impl_DownBound.j0]) (Ev.now _))
  refine Ev.pos (decide_eq_true h2) (Ev.bind0 rfl ?_)
  by_cases h3 : 0 ≤ count ∧ count ≤ 1000
  case neg => rw [show downBound ps sel win l now count = -1 from if_neg (fun h => h3 h.2.2.2), decide_eq_false h3]; exact Ev.step (f := fun _ => some (-1)) (fun k => by simp [impl_DownBound.j0]) (Ev.now _)
  rw [show downBound ps sel win l now count = _ from if_pos ⟨h0, h1, h2, h3⟩, decide_eq_true h3]
  refine Ev.step (f := fun k => (if sel = 2 then (some count) else (if (ps.length : Int) = 0 then (some 0) else ((impl_boundsDown.f k ps sel win l now count 0).bind fun b => (if sel = 0 then (some (mn count b.1)) else (some (mn count b.2))))))) (fun k => by simp [impl_DownBound.j0]) ?_
  by_cases g : sel = 2
  · rw [if_pos g]; exact Ev.pos g (Ev.now _)
  · rw [if_neg g]
    refine Ev.neg g ?_
    by_cases g1 : ps.length = 0
    · rw [if_pos g1]; exact Ev.pos (by omega) (Ev.now _)
    · rw [if_neg g1]
      refine Ev.neg (by omega) (Ev.bind (boundsDown_impl ps sel win h0 l hl now count 0 h3) ?_)
      by_cases g2 : sel = 0
      · simp only [if_pos g2]; exact Ev.now _
      · simp only [if_neg g2]; exact Ev.now _
/-- The reference's bound so far. -/
def dbSoFar (sel : Int) (s : Int × Int) (i : Int) : Int := if i = 0 then -1 else if sel = 0 then s.1 else s.2
theorem dnJ2 (k : Nat) (l : List S103) (now count b i x : Int) (ps : List S96) (sel win : Int) : spec_DownBound.j2 (k + 1) l now count b i x ps sel win = spec_DownBound.l0 k l now count (if b < 0 ∨ (sel = 0 ∧ mx 0 x < b) ∨ (sel = 1 ∧ mx 0 x > b) then mx 0 x else b) (wrap64 (i + 1)) ps sel win := by
  simp only [spec_DownBound.j2]
  have e : ∀ y : Int, (if b < 0 then (spec_DownBound.l0 k l now count y (wrap64 (i + 1)) ps sel win) else (if sel = 0 then (if y < b then (spec_DownBound.l0 k l now count y (wrap64 (i + 1)) ps sel win) else (if sel = 1 then (if y > b then (spec_DownBound.l0 k l now count y (wrap64 (i + 1)) ps sel win) else (spec_DownBound.l0 k l now count b (wrap64 (i + 1)) ps sel win)) else (spec_DownBound.l0 k l now count b (wrap64 (i + 1)) ps sel win))) else (if sel = 1 then (if y > b then (spec_DownBound.l0 k l now count y (wrap64 (i + 1)) ps sel win) else (spec_DownBound.l0 k l now count b (wrap64 (i + 1)) ps sel win)) else (spec_DownBound.l0 k l now count b (wrap64 (i + 1)) ps sel win)))) = spec_DownBound.l0 k l now count (if b < 0 ∨ (sel = 0 ∧ y < b) ∨ (sel = 1 ∧ y > b) then y else b) (wrap64 (i + 1)) ps sel win := by
    intro y
    by_cases h1 : b < 0
    · rw [if_pos h1, if_pos (.inl h1)]
    · rw [if_neg h1]
      by_cases h2 : sel = 0
      · rw [if_pos h2]
        by_cases h3 : y < b
        · rw [if_pos h3, if_pos (.inr (.inl ⟨h2, h3⟩))]
        · rw [if_neg h3, if_neg (show ¬ sel = 1 by omega), if_neg (by omega)]
      · rw [if_neg h2]
        by_cases h3 : sel = 1
        · rw [if_pos h3]
          by_cases h4 : y > b
          · rw [if_pos h4, if_pos (.inr (.inr ⟨h3, h4⟩))]
          · rw [if_neg h4, if_neg (by omega)]
        · rw [if_neg h3, if_neg (by omega)]
  unfold mx
  by_cases hx : x < 0
  · rw [if_pos hx, e 0, if_neg (show ¬ 0 < x by omega)]
  · by_cases hx' : 0 < x
    · rw [if_neg hx, e x, if_pos hx']
    · obtain rfl : x = 0 := by omega
      rw [if_neg hx, e 0, if_neg hx']
theorem downBound_spec (ps : List S96) (sel win : Int) (l : List S103) (hl : l.length ≤ 1048576) (now count : Int) : Ev (fun k => spec_DownBound.f k ps sel win l now count) (downBound ps sel win l now count) := by
  unfold spec_DownBound.f
  refine Ev.bind (good_spec ps sel win l hl now count) ?_
  by_cases h : BdOk ps sel win l now count
  case neg => rw [show downBound ps sel win l now count = -1 from if_neg h]; exact Ev.neg (fun g => h (of_decide_eq_true g)) (Ev.now _)
  refine Ev.pos (decide_eq_true h) ?_
  rw [show downBound ps sel win l now count = _ from if_pos h]
  by_cases g : sel = 2
  · rw [if_pos g]; exact Ev.pos g (Ev.now _)
  rw [if_neg g]
  refine Ev.neg g ?_
  by_cases g1 : ps.length = 0
  · rw [if_pos g1]; exact Ev.pos (by omega) (Ev.now _)
  rw [if_neg g1]
  refine Ev.neg (by omega) ?_
  obtain ⟨hs, hm, hn, hc⟩ := h
  obtain ⟨hp, hsel, _, hf⟩ := sideOk_facts hs
  have hE := ev_fold (F := fun k s i => spec_DownBound.l0 k l now count (dbSoFar sel s i) i ps sel win) (n := ps.length) (st := lmSt dnX ps l now count)
    (out := fun s => if sel = 0 then mn count s.1 else mn count s.2) (Inv := fun s i => LmInv s i ∧ (i = 0 → s = (1000, 0))) ?_ ?_ ps.length 0 (1000, 0) (by omega) ⟨⟨by simp, by simp, by simp, by simp⟩, fun _ => rfl⟩
  · have e : dbSoFar sel (1000, 0) ((0 : Nat) : Int) = -1 := by simp [dbSoFar]
    simp only [e] at hE
    exact hE
  · intro s _
    refine Ev.step (f := fun _ => some (if sel = 0 then mn count s.1 else mn count s.2)) (fun k => ?_) (Ev.now _)
    simp only [spec_DownBound.l0, dbSoFar, if_neg (show ¬ (ps.length : Int) = 0 by omega), if_neg (show ¬ (ps.length : Int) < (ps.length : Int) by omega)]
    unfold mn
    by_cases g2 : sel = 0
    · simp only [if_pos g2]
      by_cases g3 : s.1 < count
      · rw [if_pos g3, if_neg (by omega)]
      · rw [if_neg g3]; split; rfl; congr 1; omega
    · simp only [if_neg g2]
      by_cases g3 : s.2 < count
      · rw [if_pos g3, if_neg (by omega)]
      · rw [if_neg g3]; split; rfl; congr 1; omega
  · intro s i hi hI
    obtain ⟨_, hv, _⟩ := hf i hi
    have hb := baseOf_bounds l now count (rd_T96 ps i).f2 hc
    have hx := dnX_bounds (kind := (rd_T96 ps i).f0) hb hv
    refine ⟨⟨lmInv_step ps l now count hx hI.1, fun h => absurd h (Nat.succ_ne_zero i)⟩, fun r hr => ?_⟩
    obtain ⟨⟨i1, i2, i3, i4⟩, i5⟩ := hI
    have m1 : 0 ≤ mn (baseOf l now count (rd_T96 ps i).f2) 1000 ∧ mn (baseOf l now count (rd_T96 ps i).f2) 1000 ≤ 1000 := by unfold mn; split <;> omega
    refine Ev.step (f := fun k => (spec_l06Base.f k (rd_T96 ps i).f0 (rd_T96 ps i).f1 (rd_T96 ps i).f2 l now count).bind fun t => (if t > 1000 then (spec_DownBound.j1 k l now count (dbSoFar sel s i) i 1000 ps sel win (rd_T96 ps i).f0 (rd_T96 ps i).f1 (rd_T96 ps i).f2) else (spec_DownBound.j1 k l now count (dbSoFar sel s i) i t ps sel win (rd_T96 ps i).f0 (rd_T96 ps i).f1 (rd_T96 ps i).f2))) (fun k => by simp only [spec_DownBound.l0]; rw [if_pos (by omega), if_pos (by omega)]) ?_
    refine Ev.bind (base_spec l hl now count (rd_T96 ps i).f2 _ _ hc) ?_
    have key2 : ∀ x : Int, mx 0 x = dnX (baseOf l now count (rd_T96 ps i).f2) (rd_T96 ps i).f0 (rd_T96 ps i).f1 → Ev (fun k => spec_DownBound.j2 k l now count (dbSoFar sel s i) i x ps sel win) r := by
      intro x hxe
      refine Ev.step (fun k => ?_) hr
      rw [dnJ2, wr_succ hi (by omega), hxe]
      congr 1
      unfold dbSoFar lmSt
      simp only
      rw [if_neg (show ¬ ((i + 1 : Nat) : Int) = 0 by omega)]
      generalize dnX (baseOf l now count (rd_T96 ps i).f2) (rd_T96 ps i).f0 (rd_T96 ps i).f1 = y at *
      unfold mn mx
      by_cases j0 : (i : Int) = 0
      · obtain rfl := i5 (by omega)
        rw [if_pos j0, if_pos (by omega)]
        by_cases j1 : sel = 0
        · rw [if_pos j1]; split <;> omega
        · rw [if_neg j1]; split <;> omega
      · rw [if_neg j0]
        by_cases j1 : sel = 0
        · rw [if_pos j1, if_pos j1]; split <;> split <;> omega
        · rw [if_neg j1, if_neg j1]; split <;> split <;> omega
    have key : Ev (fun k => spec_DownBound.j1 k l now count (dbSoFar sel s i) i (mn (baseOf l now count (rd_T96 ps i).f2) 1000) ps sel win (rd_T96 ps i).f0 (rd_T96 ps i).f1 (rd_T96 ps i).f2) r := by
      have w1 : wrap64 (100 - (rd_T96 ps i).f1) = 100 - (rd_T96 ps i).f1 := wr_id (by omega) (by omega)
      by_cases j : (rd_T96 ps i).f0 = 1
      · by_cases j2 : 100 - (rd_T96 ps i).f1 < 0
        · refine Ev.step (f := fun k => spec_DownBound.j2 k l now count (dbSoFar sel s i) i 0 ps sel win) (fun k => ?_) (key2 0 ?_)
          · simp only [spec_DownBound.j1, w1]
            rw [if_pos j, if_pos j2, Int.mul_zero, wr_id (by omega) (by omega), floor_spec (by omega) (by omega)]; rfl
          · unfold dnX; rw [if_pos j, show mx 0 (100 - (rd_T96 ps i).f1) = 0 by unfold mx; rw [if_neg (by omega)], Int.mul_zero]; rfl
        · obtain ⟨p0, p1⟩ := mul_bounds m1.1 (show 0 ≤ 100 - (rd_T96 ps i).f1 by omega) m1.2 (show 100 - (rd_T96 ps i).f1 ≤ 100 by omega)
          refine Ev.step (f := fun k => spec_DownBound.j2 k l now count (dbSoFar sel s i) i ((mn (baseOf l now count (rd_T96 ps i).f2) 1000 * (100 - (rd_T96 ps i).f1)) / 100) ps sel win) (fun k => ?_) (key2 _ ?_)
          · simp only [spec_DownBound.j1, w1]
            rw [if_pos j, if_neg j2, wr_id (by omega) (by omega), floor_spec p0 (by omega)]; rfl
          · have e : mx 0 (100 - (rd_T96 ps i).f1) = 100 - (rd_T96 ps i).f1 := by unfold mx; split <;> omega
            unfold dnX; rw [if_pos j, e]
            generalize mn (baseOf l now count (rd_T96 ps i).f2) 1000 * (100 - (rd_T96 ps i).f1) = p at *
            unfold mx; split <;> omega
      · refine Ev.step (f := fun k => spec_DownBound.j2 k l now count (dbSoFar sel s i) i (mn (baseOf l now count (rd_T96 ps i).f2) 1000 - (rd_T96 ps i).f1) ps sel win) (fun k => ?_) (key2 _ ?_)
        · simp only [spec_DownBound.j1]
          rw [if_neg j, wr_id (by omega) (by omega)]
        · unfold dnX; rw [if_neg j]
    by_cases c : baseOf l now count (rd_T96 ps i).f2 > 1000
    · refine Ev.pos c ?_
      rw [show mn (baseOf l now count (rd_T96 ps i).f2) 1000 = 1000 by unfold mn; rw [if_pos (by omega)]] at key
      exact key
    · refine Ev.neg c ?_
      rw [show mn (baseOf l now count (rd_T96 ps i).f2) 1000 = baseOf l now count (rd_T96 ps i).f2 by unfold mn; rw [if_neg (by omega)]] at key
      exact key
end Go.Proofs.Ytfjjlipfjddaiaa.Base
/- LimitWant of the program and of the reference are one plain function.
   Conditions: none. -/
namespace Go.Proofs.Ytfjjlipfjddaiaa.Base
open Go.RowKit Go.Proofs.YtfjjlipfjddaiaaW.PrintWords Go.Proofs.YtfjjlipfjddaiaaW.PrintMore Go.Proofs.Ytfjjlipfjddaiaa.U
def cutOf (x lo hi : Int) : Int := if x < lo then lo else if x > hi then hi else x
theorem cut_spec (x lo hi : Int) : spec_l06Cut.f x lo hi = some (cutOf x lo hi) := by
  unfold spec_l06Cut.f cutOf
  split
  · rfl
  · split <;> rfl
def LwOk (ul : List S96) (us uw : Int) (dl : List S96) (ds dw m n : Int) (l : List S103) (now count want : Int) : Prop :=
  behaveOk ul us uw dl ds dw m n = true ∧ mvOk l = true ∧ (0 ≤ now ∧ now ≤ 1000000000) ∧ (0 ≤ count ∧ count ≤ 1000) ∧ (0 ≤ want ∧ want ≤ 1000)
instance (ul : List S96) (us uw : Int) (dl : List S96) (ds dw m n : Int) (l : List S103) (now count want : Int) : Decidable (LwOk ul us uw dl ds dw m n l now count want) := by unfold LwOk; infer_instance
def limitWant (ul : List S96) (us uw : Int) (dl : List S96) (ds dw m n : Int) (l : List S103) (now count want : Int) : Int :=
  if LwOk ul us uw dl ds dw m n l now count want then cutOf (cutOf want (downBound dl ds dw l now count) (upBound ul us uw l now count)) m n else -1
theorem limitWant_spec (ul : List S96) (us uw : Int) (dl : List S96) (ds dw m n : Int) (l : List S103) (hl : l.length ≤ 1048576) (now count want : Int) : Ev (fun k => spec_LimitWant.f k ul us uw dl ds dw m n l now count want) (limitWant ul us uw dl ds dw m n l now count want) := by
  unfold spec_LimitWant.f
  refine Ev.bind (behaveOk_spec ul us uw dl ds dw m n) ?_
  by_cases h0 : behaveOk ul us uw dl ds dw m n = true
  case neg =>
    rw [show limitWant ul us uw dl ds dw m n l now count want = -1 from if_neg (fun h => h0 h.1)]
    exact Ev.neg h0 (Ev.step (f := fun _ => some (-1)) (fun k => by simp [spec_LimitWant.j0]) (Ev.now _))
  refine Ev.pos h0 (Ev.bind (mvOk_spec l hl) ?_)
  by_cases h1 : mvOk l = true
  case neg =>
    rw [show limitWant ul us uw dl ds dw m n l now count want = -1 from if_neg (fun h => h1 h.2.1)]
    exact Ev.neg h1 (Ev.step (f := fun _ => some (-1)) (fun k => by simp [spec_LimitWant.j0]) (Ev.now _))
  refine Ev.pos h1 ?_
  rw [tick_spec, count_spec, count_spec]
  refine Ev.bind0 rfl ?_
  by_cases h2 : 0 ≤ now ∧ now ≤ 1000000000
  case neg =>
    rw [show limitWant ul us uw dl ds dw m n l now count want = -1 from if_neg (fun h => h2 h.2.2.1)]
    exact Ev.neg (fun h => h2 (of_decide_eq_true h)) (Ev.step (f := fun _ => some (-1)) (fun k => by simp [spec_LimitWant.j0]) (Ev.now _))
  refine Ev.pos (decide_eq_true h2) (Ev.bind0 rfl ?_)
  by_cases h3 : 0 ≤ count ∧ count ≤ 1000
  case neg =>
    rw [show limitWant ul us uw dl ds dw m n l now count want = -1 from if_neg (fun h => h3 h.2.2.2.1)]
    exact Ev.neg (fun h => h3 (of_decide_eq_true h)) (Ev.step (f := fun _ => some (-1)) (fun k => by simp [spec_LimitWant.j0]) (Ev.now _))
  refine Ev.pos (decide_eq_true h3) (Ev.bind0 rfl ?_)
  by_cases h4 : 0 ≤ want ∧ want ≤ 1000
  case neg =>
    rw [show limitWant ul us uw dl ds dw m n l now count want = -1 from if_neg (fun h => h4 h.2.2.2.2), decide_eq_false h4]
    exact Ev.step (f := fun _ => some (-1)) (fun k => by simp [spec_LimitWant.j0]) (Ev.now _)
  rw [show limitWant ul us uw dl ds dw m n l now count want = _ from if_pos ⟨h0, h1, h2, h3, h4⟩, decide_eq_true h4]
  refine Ev.step (f := fun k => (spec_DownBound.f k dl ds dw l now count).bind fun t => ((spec_UpBound.f k ul us uw l now count).bind fun u => ((spec_l06Cut.f want t u).bind fun v => ((spec_l06Cut.f v m n).bind fun x => (some x))))) (fun k => by simp [spec_LimitWant.j0]) ?_
  refine Ev.bind (downBound_spec dl ds dw l hl now count) (Ev.bind (upBound_spec ul us uw l hl now count) ?_)
  simp only [cut_spec, Option.bind_some]
  exact Ev.now _
theorem limitWant_impl (ul : List S96) (hul : ul.length ≤ 1048576) (us uw : Int) (dl : List S96) (hdl : dl.length ≤ 1048576) (ds dw m n : Int) (l : List S103) (hl : l.length ≤ 1048576) (now count want : Int) : Ev (fun k => impl_LimitWant.f k ul us uw dl ds dw m n l now count want) (limitWant ul us uw dl ds dw m n l now count want) := by
  unfold impl_LimitWant.f
  refine Ev.bind (behaveOk_impl ul hul us uw dl hdl ds dw m n) ?_
  by_cases h0 : behaveOk ul us uw dl ds dw m n = true
  case neg =>
    rw [show limitWant ul us uw dl ds dw m n l now count want = -1 from if_neg (fun h => h0 h.1)]
    exact Ev.neg h0 (Ev.step (f := fun _ => some (-1)) (fun k => by simp [impl_LimitWant.j0]) (Ev.now _))
  refine Ev.pos h0 ?_
  rw [count_impl]
  refine Ev.bind0 rfl ?_
  by_cases h4 : 0 ≤ want ∧ want ≤ 1000
  case neg =>
    rw [show limitWant ul us uw dl ds dw m n l now count want = -1 from if_neg (fun h => h4 h.2.2.2.2), decide_eq_false h4]
    exact Ev.step (f := fun _ => some (-1)) (fun k => by simp [impl_LimitWant.j0]) (Ev.now _)
  rw [decide_eq_true h4]
  refine Ev.step (f := fun k => (impl_UpBound.f k ul us uw l now count).bind fun t => ((impl_DownBound.f k dl ds dw l now count).bind fun u => (if t < 0 then (some (-1)) else (if u < 0 then (some (-1)) else (some (mn (mx (mn (mx want u) t) m) n)))))) (fun k => by simp [impl_LimitWant.j0]) ?_
  refine Ev.bind (upBound_impl ul hul us uw l hl now count) (Ev.bind (downBound_impl dl hdl ds dw l hl now count) ?_)
  obtain ⟨hu, hd, m0, mn0, n0⟩ := behaveOk_facts h0
  by_cases h : mvOk l = true ∧ (0 ≤ now ∧ now ≤ 1000000000) ∧ (0 ≤ count ∧ count ≤ 1000)
  · have bu : BdOk ul us uw l now count := ⟨hu, h⟩
    have bd : BdOk dl ds dw l now count := ⟨hd, h⟩
    obtain ⟨u1, u2, _⟩ := upBound_facts bu
    obtain ⟨d1, d2, _⟩ := downBound_facts bd
    obtain ⟨h1, h2, h3⟩ := h
    rw [show limitWant ul us uw dl ds dw m n l now count want = _ from if_pos ⟨h0, h1, h2, h3, h4⟩]
    generalize upBound ul us uw l now count = u at *
    generalize downBound dl ds dw l now count = d at *
    refine Ev.neg (by omega) (Ev.neg (by omega) ?_)
    have e : cutOf (cutOf want d u) m n = mn (mx (mn (mx want d) u) m) n := by
      have e1 : cutOf want d u = mn (mx want d) u := by unfold cutOf mn mx; repeat' split; all_goals omega
      rw [e1]
      generalize mn (mx want d) u = y
      unfold cutOf mn mx; repeat' split; all_goals omega
    rw [e]
    exact Ev.now _
  · rw [show limitWant ul us uw dl ds dw m n l now count want = -1 from if_neg (fun g => h ⟨g.2.1, g.2.2.1, g.2.2.2.1⟩), show upBound ul us uw l now count = -1 from if_neg (fun g => h g.2)]
    exact Ev.pos (by omega) (Ev.now _)
end Go.Proofs.Ytfjjlipfjddaiaa.Base
/- NotesOk of the program and of the reference are one plain test, and what it tells.
   Conditions: none. -/
namespace Go.Proofs.Ytfjjlipfjddaiaa.Base
open Go.RowKit Go.Proofs.YtfjjlipfjddaiaaW.PrintWords Go.Proofs.YtfjjlipfjddaiaaW.PrintMore Go.Proofs.Ytfjjlipfjddaiaa.U
def ntP (l : List S109) (i : Nat) : Bool := decide ((0 ≤ (rd_T109 l i).f0 ∧ (rd_T109 l i).f0 ≤ 1000000000) ∧ (0 ≤ (rd_T109 l i).f1 ∧ (rd_T109 l i).f1 ≤ 1000) ∧ (0 < i → (rd_T109 l ((i - 1 : Nat) : Int)).f0 ≤ (rd_T109 l i).f0))
def ntOk (l : List S109) : Bool := (List.range' 0 l.length).all (ntP l) && decide (l.length ≤ 200)
theorem ntP_ite {α : Type} (l : List S109) (i : Nat) (a b : α) : (if ntP l i = true then a else b) = if decide (0 ≤ (rd_T109 l i).f0 ∧ (rd_T109 l i).f0 ≤ 1000000000) = true then (if decide (0 ≤ (rd_T109 l i).f1 ∧ (rd_T109 l i).f1 ≤ 1000) = true then (if (i : Int) > 0 then (if (rd_T109 l ((i - 1 : Nat) : Int)).f0 > (rd_T109 l i).f0 then b else a) else a) else b) else b := by
  unfold ntP
  by_cases h1 : 0 ≤ (rd_T109 l i).f0 ∧ (rd_T109 l i).f0 ≤ 1000000000
  · by_cases h2 : 0 ≤ (rd_T109 l i).f1 ∧ (rd_T109 l i).f1 ≤ 1000
    · by_cases h3 : 0 < i
      · by_cases h4 : (rd_T109 l ((i - 1 : Nat) : Int)).f0 ≤ (rd_T109 l i).f0
        · have h5 : ¬ (rd_T109 l ((i - 1 : Nat) : Int)).f0 > (rd_T109 l i).f0 := by omega
          have h6 : (i : Int) > 0 := by omega
          rw [if_pos (decide_eq_true ⟨h1, h2, fun _ => h4⟩), if_pos (decide_eq_true h1), if_pos (decide_eq_true h2), if_pos h6, if_neg h5]
        · have h5 : (rd_T109 l ((i - 1 : Nat) : Int)).f0 > (rd_T109 l i).f0 := by omega
          have h6 : (i : Int) > 0 := by omega
          rw [if_neg (by intro h; exact h4 ((of_decide_eq_true h).2.2 h3)), if_pos (decide_eq_true h1), if_pos (decide_eq_true h2), if_pos h6, if_pos h5]
      · have h6 : ¬ (i : Int) > 0 := by omega
        rw [if_pos (decide_eq_true ⟨h1, h2, fun h => absurd h h3⟩), if_pos (decide_eq_true h1), if_pos (decide_eq_true h2), if_neg h6]
    · rw [if_neg (by intro h; exact h2 (of_decide_eq_true h).2.1), if_pos (decide_eq_true h1), if_neg (by intro h; exact h2 (of_decide_eq_true h))]
  · rw [if_neg (by intro h; exact h1 (of_decide_eq_true h).1), if_neg (by intro h; exact h1 (of_decide_eq_true h))]
theorem ntOk_spec (l : List S109) (hl : l.length ≤ 1048576) : Ev (fun k => spec_NotesOk.f k l) (ntOk l) := by
  unfold spec_NotesOk.f ntOk
  by_cases h : (l.length : Int) > 200
  · rw [decide_eq_false (by omega), Bool.and_false]
    exact Ev.pos h (Ev.now false)
  · rw [decide_eq_true (by omega)]
    refine Ev.neg h (ev_all1 (F := fun k i => spec_NotesOk.l0 k l i) (Ev.step (f := fun _ => some true) (fun k => by simp only [spec_NotesOk.l0]; rw [if_neg (by omega)]) (Ev.now true)) ?_)
    intro i k hi
    simp only [spec_NotesOk.l0, tick_spec, count_spec, Option.bind_some]
    rw [if_pos (by omega), if_pos (by omega), wr_succ hi (by omega), ntP_ite]
    by_cases hp : (i : Int) > 0
    · rw [wr_pred (by omega) (by omega), if_pos (show (0 : Int) ≤ ((i - 1 : Nat) : Int) by omega), if_pos (show ((i - 1 : Nat) : Int) < (l.length : Int) by omega)]
    · simp only [if_neg hp]
theorem ntOk_impl (l : List S109) (hl : l.length ≤ 1048576) : Ev (fun k => impl_NotesOk.f k l) (ntOk l) := by
  unfold impl_NotesOk.f ntOk
  refine ev_all1 (F := fun k i => impl_NotesOk.l0 k l l (l.length : Int) i) (Ev.step (f := fun _ => some (decide (l.length ≤ 200))) (fun k => by simp only [impl_NotesOk.l0]; rw [if_neg (by omega)]; congr 1; exact decide_eq_decide.2 (by omega)) (Ev.now _)) ?_
  intro i k hi
  simp only [impl_NotesOk.l0, tick_impl, count_impl, Option.bind_some]
  rw [if_pos (by omega), if_pos (by omega), if_pos (by omega), wr_succ hi (by omega), ntP_ite]
  by_cases hp : (i : Int) > 0
  · rw [wr_pred (by omega) (by omega), if_pos (show (0 : Int) ≤ ((i - 1 : Nat) : Int) by omega), if_pos (show ((i - 1 : Nat) : Int) < (l.length : Int) by omega)]
  · simp only [if_neg hp]
/-- What NotesOk tells. -/
theorem ntOk_facts {l : List S109} (h : ntOk l = true) : l.length ≤ 200 ∧ ∀ i : Nat, i < l.length → (0 ≤ (rd_T109 l i).f0 ∧ (rd_T109 l i).f0 ≤ 1000000000) ∧ 0 ≤ (rd_T109 l i).f1 ∧ (rd_T109 l i).f1 ≤ 1000 := by
  unfold ntOk at h
  rw [Bool.and_eq_true, List.all_eq_true] at h
  refine ⟨of_decide_eq_true h.2, fun i hi => ?_⟩
  have := of_decide_eq_true (h.1 i (by rw [List.mem_range'_1]; omega))
  exact ⟨this.1, this.2.1⟩
end Go.Proofs.Ytfjjlipfjddaiaa.Base
/- Steady of the program and of the reference are one plain function.
   Conditions: none. -/
namespace Go.Proofs.Ytfjjlipfjddaiaa.Base
open Go.RowKit Go.Proofs.YtfjjlipfjddaiaaW.PrintWords Go.Proofs.YtfjjlipfjddaiaaW.PrintMore Go.Proofs.Ytfjjlipfjddaiaa.U
def stSt (l : List S109) (now uw dw : Int) (s : Int × Int) (i : Nat) : Int × Int :=
  if (rd_T109 l i).f0 > now then s else
    ((if (rd_T109 l i).f0 > now - uw then mn s.1 (rd_T109 l i).f1 else s.1), (if (rd_T109 l i).f0 > now - dw then mx s.2 (rd_T109 l i).f1 else s.2))
def stFin (c : Int) (s : Int × Int) : Int := if c < s.1 then s.1 else if c > s.2 then s.2 else c
def StOk (ul : List S96) (us uw : Int) (dl : List S96) (ds dw m n : Int) (l : List S109) (now count want : Int) : Prop :=
  behaveOk ul us uw dl ds dw m n = true ∧ ntOk l = true ∧ (0 ≤ now ∧ now ≤ 1000000000) ∧ (0 ≤ count ∧ count ≤ 1000) ∧ (0 ≤ want ∧ want ≤ 1000)
instance (ul : List S96) (us uw : Int) (dl : List S96) (ds dw m n : Int) (l : List S109) (now count want : Int) : Decidable (StOk ul us uw dl ds dw m n l now count want) := by unfold StOk; infer_instance
def steady (ul : List S96) (us uw : Int) (dl : List S96) (ds dw m n : Int) (l : List S109) (now count want : Int) : Int :=
  if StOk ul us uw dl ds dw m n l now count want then stFin count ((List.range' 0 l.length).foldl (stSt l now uw dw) (want, want)) else -1
def StInv (want : Int) (s : Int × Int) (_ : Nat) : Prop := 0 ≤ s.1 ∧ s.1 ≤ want ∧ want ≤ s.2 ∧ s.2 ≤ 1000
theorem stInv_step {l : List S109} (hf : ∀ i : Nat, i < l.length → (0 ≤ (rd_T109 l i).f0 ∧ (rd_T109 l i).f0 ≤ 1000000000) ∧ 0 ≤ (rd_T109 l i).f1 ∧ (rd_T109 l i).f1 ≤ 1000) (now uw dw want : Int) (s : Int × Int) (i : Nat) (hi : i < l.length) (h : StInv want s i) : StInv want (stSt l now uw dw s i) (i + 1) := by
  obtain ⟨h1, h2, h3, h4⟩ := h
  obtain ⟨_, f1, f2⟩ := hf i hi
  unfold StInv stSt
  split
  · exact ⟨h1, h2, h3, h4⟩
  · simp only [mn, mx]
    refine ⟨?_, ?_, ?_, ?_⟩ <;> (split <;> first | omega | (split <;> omega))
/-- What a stabilized count is. -/
theorem steady_facts {ul : List S96} {us uw : Int} {dl : List S96} {ds dw m n : Int} {l : List S109} {now count want : Int} (h : StOk ul us uw dl ds dw m n l now count want) :
    (∃ lo hi, 0 ≤ lo ∧ lo ≤ want ∧ want ≤ hi ∧ hi ≤ 1000 ∧ steady ul us uw dl ds dw m n l now count want = stFin count (lo, hi)) := by
  have hI := fold_inv (n := l.length) (st := stSt l now uw dw) (Inv := StInv want) (fun s i hi hI => stInv_step (ntOk_facts h.2.1).2 now uw dw want s i hi hI) l.length 0 (want, want) (by omega) ⟨h.2.2.2.2.1, Int.le_refl _, Int.le_refl _, h.2.2.2.2.2⟩
  obtain ⟨h1, h2, h3, h4⟩ := hI
  exact ⟨_, _, h1, h2, h3, h4, by unfold steady; rw [if_pos h]⟩
theorem stFin_range {c want lo hi : Int} (h1 : lo ≤ want) (h2 : want ≤ hi) : (c ≤ stFin c (lo, hi) ∧ stFin c (lo, hi) ≤ want) ∨ (want ≤ stFin c (lo, hi) ∧ stFin c (lo, hi) ≤ c) := by
  unfold stFin
  simp only
  split
  · omega
  · split <;> omega
theorem steady_range (ul : List S96) (us uw : Int) (dl : List S96) (ds dw m n : Int) (l : List S109) (now count want : Int) : steady ul us uw dl ds dw m n l now count want = -1 ∨ (StOk ul us uw dl ds dw m n l now count want ∧ 0 ≤ steady ul us uw dl ds dw m n l now count want ∧ steady ul us uw dl ds dw m n l now count want ≤ 1000) := by
  by_cases h : StOk ul us uw dl ds dw m n l now count want
  · right
    obtain ⟨lo, hi, _, g1, g2, _, e⟩ := steady_facts h
    have := stFin_range (c := count) g1 g2
    rw [e]
    obtain ⟨_, _, _, ⟨c1, c2⟩, w1, w2⟩ := h
    refine ⟨⟨‹_›, ‹_›, ‹_›, ⟨c1, c2⟩, w1, w2⟩, ?_, ?_⟩ <;> rcases this with this | this <;> omega
  · left; unfold steady; rw [if_neg h]
/-- Without windows it is the count that is wanted. -/
theorem steady_none (ul : List S96) (us : Int) (dl : List S96) (ds m n : Int) (l : List S109) (now count want : Int) (h : StOk ul us 0 dl ds 0 m n l now count want) : steady ul us 0 dl ds 0 m n l now count want = want := by
  unfold steady
  rw [if_pos h]
  have e : (List.range' 0 l.length).foldl (stSt l now 0 0) (want, want) = (want, want) := by
    have := fold_inv (n := l.length) (st := stSt l now 0 0) (Inv := fun s _ => s = (want, want)) (fun s i _ hI => by
      subst hI
      unfold stSt
      by_cases g : (rd_T109 l i).f0 > now
      · rw [if_pos g]
      · rw [if_neg g, if_neg (by omega), if_neg (by omega)]) l.length 0 (want, want) (by omega) rfl
    exact this
  rw [e]
  unfold stFin
  simp only
  split
  · rfl
  · split <;> omega
theorem steady_spec (ul : List S96) (us uw : Int) (dl : List S96) (ds dw m n : Int) (l : List S109) (hl : l.length ≤ 1048576) (now count want : Int) : Ev (fun k => spec_Steady.f k ul us uw dl ds dw m n l now count want) (steady ul us uw dl ds dw m n l now count want) := by
  unfold spec_Steady.f
  refine Ev.bind (behaveOk_spec ul us uw dl ds dw m n) ?_
  by_cases h0 : behaveOk ul us uw dl ds dw m n = true
  case neg =>
    rw [show steady ul us uw dl ds dw m n l now count want = -1 from if_neg (fun h => h0 h.1)]
    exact Ev.neg h0 (Ev.step (f := fun _ => some (-1)) (fun k => by simp [spec_Steady.j0]) (Ev.now _))
  refine Ev.pos h0 (Ev.bind (ntOk_spec l hl) ?_)
  by_cases h1 : ntOk l = true
  case neg =>
    rw [show steady ul us uw dl ds dw m n l now count want = -1 from if_neg (fun h => h1 h.2.1)]
    exact Ev.neg h1 (Ev.step (f := fun _ => some (-1)) (fun k => by simp [spec_Steady.j0]) (Ev.now _))
  refine Ev.pos h1 ?_
  rw [tick_spec, count_spec, count_spec]
  refine Ev.bind0 rfl ?_
  by_cases h2 : 0 ≤ now ∧ now ≤ 1000000000
  case neg =>
    rw [show steady ul us uw dl ds dw m n l now count want = -1 from if_neg (fun h => h2 h.2.2.1)]
    exact Ev.neg (fun h => h2 (of_decide_eq_true h)) (Ev.step (f := fun _ => some (-1)) (fun k => by simp [spec_Steady.j0]) (Ev.now _))
  refine Ev.pos (decide_eq_true h2) (Ev.bind0 rfl ?_)
  by_cases h3 : 0 ≤ count ∧ count ≤ 1000
  case neg =>
    rw [show steady ul us uw dl ds dw m n l now count want = -1 from if_neg (fun h => h3 h.2.2.2.1)]
    exact Ev.neg (fun h => h3 (of_decide_eq_true h)) (Ev.step (f := fun _ => some (-1)) (fun k => by simp [spec_Steady.j0]) (Ev.now _))
  refine Ev.pos (decide_eq_true h3) (Ev.bind0 rfl ?_)
  by_cases h4 : 0 ≤ want ∧ want ≤ 1000
  case neg =>
    rw [show steady ul us uw dl ds dw m n l now count want = -1 from if_neg (fun h => h4 h.2.2.2.2), decide_eq_false h4]
    exact Ev.step (f := fun _ => some (-1)) (fun k => by simp [spec_Steady.j0]) (Ev.now _)
  rw [show steady ul us uw dl ds dw m n l now count want = _ from if_pos ⟨h0, h1, h2, h3, h4⟩, decide_eq_true h4]
  obtain ⟨_, hf⟩ := ntOk_facts h1
  obtain ⟨hu, hd, _, _, _⟩ := behaveOk_facts h0
  obtain ⟨_, _, ⟨uw0, uw1⟩, _⟩ := sideOk_facts hu
  obtain ⟨_, _, ⟨dw0, dw1⟩, _⟩ := sideOk_facts hd
  have e1 : wrap64 (now - uw) = now - uw := wr_id (by omega) (by omega)
  have e2 : wrap64 (now - dw) = now - dw := wr_id (by omega) (by omega)
  refine Ev.step (f := fun k => spec_Steady.l0 k l now count want want 0 ul us uw dl ds dw m n) (fun k => by simp [spec_Steady.j0]) ?_
  refine ev_fold (F := fun k s i => spec_Steady.l0 k l now count s.1 s.2 i ul us uw dl ds dw m n) (n := l.length) (st := stSt l now uw dw) (out := stFin count) (Inv := StInv want) ?_ ?_ l.length 0 (want, want) (by omega) ⟨h4.1, Int.le_refl _, Int.le_refl _, h4.2⟩
  · intro s _
    exact Ev.step (f := fun _ => some (stFin count s)) (fun k => by simp only [spec_Steady.l0, stFin]; rw [if_neg (by omega)]; split; rfl; split <;> rfl) (Ev.now _)
  · intro s i hi hI
    refine ⟨stInv_step hf now uw dw want s i hi hI, fun r h => ?_⟩
    refine Ev.step (f := fun k => spec_Steady.j2 k l now count s.1 s.2 i (decide ((rd_T109 l i).f0 > now - uw ∧ (rd_T109 l i).f0 ≤ now ∧ (rd_T109 l i).f1 < s.1)) ul us uw dl ds dw m n (rd_T109 l i).f0 (rd_T109 l i).f1) (fun k => ?_) ?_
    · simp only [spec_Steady.l0]
      rw [if_pos (by omega), if_pos (by omega), e1]
      by_cases g1 : (rd_T109 l i).f0 > now - uw
      · rw [if_pos g1]
        by_cases g2 : (rd_T109 l i).f0 ≤ now
        · rw [if_pos g2]; simp [g1, g2]
        · rw [if_neg g2]; simp [g2]
      · rw [if_neg g1]; simp [g1]
    · refine Ev.step (fun k => ?_) h
      simp only [spec_Steady.j2, stSt, e2, wr_succ hi (show l.length ≤ 4611686018427387904 by omega)]
      by_cases g2 : (rd_T109 l i).f0 ≤ now
      · rw [if_neg (show ¬ (rd_T109 l i).f0 > now by omega)]
        by_cases g1 : (rd_T109 l i).f0 > now - uw
        · by_cases g3 : (rd_T109 l i).f1 < s.1
          · rw [decide_eq_true ⟨g1, g2, g3⟩]
            simp only [mn, mx, if_pos g1, if_pos g3, if_true]
            by_cases g4 : (rd_T109 l i).f0 > now - dw
            · simp only [if_pos g4, if_pos g2]
              by_cases g5 : (rd_T109 l i).f1 > s.2
              · rw [if_pos g5, if_pos (show s.2 < _ from g5)]
              · rw [if_neg g5, if_neg (show ¬ s.2 < _ from g5)]
            · simp only [if_neg g4]
          · rw [decide_eq_false (fun h => g3 h.2.2)]
            simp only [mn, mx, if_pos g1, if_neg g3, Bool.false_eq_true, if_false]
            by_cases g4 : (rd_T109 l i).f0 > now - dw
            · simp only [if_pos g4, if_pos g2]
              by_cases g5 : (rd_T109 l i).f1 > s.2
              · rw [if_pos g5, if_pos (show s.2 < _ from g5)]
              · rw [if_neg g5, if_neg (show ¬ s.2 < _ from g5)]
            · simp only [if_neg g4]
        · rw [decide_eq_false (fun h => g1 h.1)]
          simp only [mx, if_neg g1, Bool.false_eq_true, if_false]
          by_cases g4 : (rd_T109 l i).f0 > now - dw
          · simp only [if_pos g4, if_pos g2]
            by_cases g5 : (rd_T109 l i).f1 > s.2
            · rw [if_pos g5, if_pos (show s.2 < _ from g5)]
            · rw [if_neg g5, if_neg (show ¬ s.2 < _ from g5)]
          · simp only [if_neg g4]
      · rw [if_pos (show (rd_T109 l i).f0 > now by omega), decide_eq_false (fun h => g2 h.2.1)]
        simp only [Bool.false_eq_true, if_false, if_neg g2]
        split <;> rfl
theorem steady_impl (ul : List S96) (hul : ul.length ≤ 1048576) (us uw : Int) (dl : List S96) (hdl : dl.length ≤ 1048576) (ds dw m n : Int) (l : List S109) (hl : l.length ≤ 1048576) (now count want : Int) : Ev (fun k => impl_Steady.f k ul us uw dl ds dw m n l now count want) (steady ul us uw dl ds dw m n l now count want) := by
  unfold impl_Steady.f
  refine Ev.bind (behaveOk_impl ul hul us uw dl hdl ds dw m n) ?_
  by_cases h0 : behaveOk ul us uw dl ds dw m n = true
  case neg =>
    rw [show steady ul us uw dl ds dw m n l now count want = -1 from if_neg (fun h => h0 h.1)]
    exact Ev.neg h0 (Ev.step (f := fun _ => some (-1)) (fun k => by simp [impl_Steady.j0]) (Ev.now _))
  refine Ev.pos h0 (Ev.bind (ntOk_impl l hl) ?_)
  by_cases h1 : ntOk l = true
  case neg =>
    rw [show steady ul us uw dl ds dw m n l now count want = -1 from if_neg (fun h => h1 h.2.1)]
    exact Ev.neg h1 (Ev.step (f := fun _ => some (-1)) (fun k => by simp [impl_Steady.j0]) (Ev.now _))
  refine Ev.pos h1 ?_
  rw [tick_impl, count_impl, count_impl]
  refine Ev.bind0 rfl ?_
  by_cases h2 : 0 ≤ now ∧ now ≤ 1000000000
  case neg =>
    rw [show steady ul us uw dl ds dw m n l now count want = -1 from if_neg (fun h => h2 h.2.2.1)]
    exact Ev.neg (fun h => h2 (of_decide_eq_true h)) (Ev.step (f := fun _ => some (-1)) (fun k => by simp [impl_Steady.j0]) (Ev.now _))
  refine Ev.pos (decide_eq_true h2) (Ev.bind0 rfl ?_)
  by_cases h3 : 0 ≤ count ∧ count ≤ 1000
  case neg =>
    rw [show steady ul us uw dl ds dw m n l now count want = -1 from if_neg (fun h => h3 h.2.2.2.1)]
    exact Ev.neg (fun h => h3 (of_decide_eq_true h)) (Ev.step (f := fun _ => some (-1)) (fun k => by simp [impl_Steady.j0]) (Ev.now _))
  refine Ev.pos (decide_eq_true h3) (Ev.bind0 rfl ?_)
  by_cases h4 : 0 ≤ want ∧ want ≤ 1000
  case neg =>
    rw [show steady ul us uw dl ds dw m n l now count want = -1 from if_neg (fun h => h4 h.2.2.2.2), decide_eq_false h4]
    exact Ev.step (f := fun _ => some (-1)) (fun k => by simp [impl_Steady.j0]) (Ev.now _)
  rw [show steady ul us uw dl ds dw m n l now count want = _ from if_pos ⟨h0, h1, h2, h3, h4⟩, decide_eq_true h4]
  obtain ⟨_, hf⟩ := ntOk_facts h1
  obtain ⟨hu, hd, _, _, _⟩ := behaveOk_facts h0
  obtain ⟨_, _, ⟨uw0, uw1⟩, _⟩ := sideOk_facts hu
  obtain ⟨_, _, ⟨dw0, dw1⟩, _⟩ := sideOk_facts hd
  have e1 : wrap64 (now - uw) = now - uw := wr_id (by omega) (by omega)
  have e2 : wrap64 (now - dw) = now - dw := wr_id (by omega) (by omega)
  refine Ev.step (f := fun k => impl_Steady.l0 k now count want want l (l.length : Int) 0 ul us uw dl ds dw m n) (fun k => by simp [impl_Steady.j0]) ?_
  refine ev_fold (F := fun k s i => impl_Steady.l0 k now count s.1 s.2 l (l.length : Int) i ul us uw dl ds dw m n) (n := l.length) (st := stSt l now uw dw) (out := stFin count) (Inv := StInv want) ?_ ?_ l.length 0 (want, want) (by omega) ⟨h4.1, Int.le_refl _, Int.le_refl _, h4.2⟩
  · intro s _
    exact Ev.step (f := fun _ => some (stFin count s)) (fun k => by simp only [impl_Steady.l0, stFin]; rw [if_neg (by omega)]; split; rfl; split <;> rfl) (Ev.now _)
  · intro s i hi hI
    refine ⟨stInv_step hf now uw dw want s i hi hI, fun r h => Ev.step (fun k => ?_) h⟩
    simp only [impl_Steady.l0, stSt, e1, e2, wr_succ hi (show l.length ≤ 4611686018427387904 by omega)]
    rw [if_pos (by omega), if_pos (by omega), if_pos (by omega)]
    by_cases g0 : (rd_T109 l i).f0 > now
    · rw [if_pos g0, if_pos g0]
    · rw [if_neg g0, if_neg g0]
      by_cases g1 : (rd_T109 l i).f0 > now - uw
      · by_cases g2 : (rd_T109 l i).f0 > now - dw
        · simp only [if_pos g1, if_pos g2]
        · simp only [if_pos g1, if_neg g2]
      · by_cases g2 : (rd_T109 l i).f0 > now - dw
        · simp only [if_neg g1, if_pos g2]
        · simp only [if_neg g1, if_neg g2]
end Go.Proofs.Ytfjjlipfjddaiaa.Base
/- Decide of the program and of the reference are one plain function.
   Conditions: none. -/
namespace Go.Proofs.Ytfjjlipfjddaiaa.Base
open Go.RowKit Go.Proofs.YtfjjlipfjddaiaaW.PrintWords Go.Proofs.YtfjjlipfjddaiaaW.PrintMore Go.Proofs.Ytfjjlipfjddaiaa.U
def decideOf (ul : List S96) (us uw : Int) (dl : List S96) (ds dw m n : Int) (ls : List S109) (l : List S103) (now count want : Int) : Int :=
  limitWant ul us uw dl ds dw m n l now count (steady ul us uw dl ds dw m n ls now count want)
theorem decide_spec (ul : List S96) (us uw : Int) (dl : List S96) (ds dw m n : Int) (ls : List S109) (hls : ls.length ≤ 1048576) (l : List S103) (hl : l.length ≤ 1048576) (now count want : Int) : Ev (fun k => spec_Decide.f k ul us uw dl ds dw m n ls l now count want) (decideOf ul us uw dl ds dw m n ls l now count want) := by
  unfold spec_Decide.f decideOf
  refine Ev.bind (steady_spec ul us uw dl ds dw m n ls hls now count want) ?_
  by_cases h : steady ul us uw dl ds dw m n ls now count want < 0
  · rw [show limitWant ul us uw dl ds dw m n l now count (steady ul us uw dl ds dw m n ls now count want) = -1 from if_neg (fun g => by have := g.2.2.2.2.1; omega)]
    exact Ev.pos h (Ev.now _)
  · exact Ev.neg h (Ev.bind (limitWant_spec ul us uw dl ds dw m n l hl now count _) (Ev.now _))
theorem decide_impl (ul : List S96) (hul : ul.length ≤ 1048576) (us uw : Int) (dl : List S96) (hdl : dl.length ≤ 1048576) (ds dw m n : Int) (ls : List S109) (hls : ls.length ≤ 1048576) (l : List S103) (hl : l.length ≤ 1048576) (now count want : Int) : Ev (fun k => impl_Decide.f k ul us uw dl ds dw m n ls l now count want) (decideOf ul us uw dl ds dw m n ls l now count want) := by
  unfold impl_Decide.f decideOf
  exact Ev.bind (steady_impl ul hul us uw dl hdl ds dw m n ls hls now count want) (Ev.bind (limitWant_impl ul hul us uw dl hdl ds dw m n l hl now count _) (Ev.now _))
end Go.Proofs.Ytfjjlipfjddaiaa.Base
namespace Go.Proofs.Ytfjjlipfjddaiaa.Pure
open Go.RowKit Go.Proofs.YtfjjlipfjddaiaaW.PrintWords Go.Proofs.YtfjjlipfjddaiaaW.PrintMore Go.Proofs.Ytfjjlipfjddaiaa.U Go.Proofs.Ytfjjlipfjddaiaa.Base
theorem FnExactDecide : ∀ (l0_0 : List (S125)) (a0_1 : Int) (a0_2 : Int) (l0_3 : List (S125)) (a0_4 : Int) (a0_5 : Int) (a0_6 : Int) (a0_7 : Int) (l1 : List (S111)) (l2 : List (S105)) (a3 : Int) (a4 : Int) (a5 : Int), (l0_0.length ≤ 9223372036854775807 ∧ ∀ x ∈ l0_0, ((Lit.int .i64 x.f0).wf = true ∧ (Lit.int .i64 x.f1).wf = true ∧ (Lit.int .i64 x.f2).wf = true)) → (Lit.int .i64 a0_1).wf = true → (Lit.int .i64 a0_2).wf = true → (l0_3.length ≤ 9223372036854775807 ∧ ∀ x ∈ l0_3, ((Lit.int .i64 x.f0).wf = true ∧ (Lit.int .i64 x.f1).wf = true ∧ (Lit.int .i64 x.f2).wf = true)) → (Lit.int .i64 a0_4).wf = true → (Lit.int .i64 a0_5).wf = true → (Lit.int .i64 a0_6).wf = true → (Lit.int .i64 a0_7).wf = true → (l1.length ≤ 9223372036854775807 ∧ ∀ x ∈ l1, ((Lit.int .i64 x.f0).wf = true ∧ (Lit.int .i64 x.f1).wf = true)) → (l2.length ≤ 9223372036854775807 ∧ ∀ x ∈ l2, ((Lit.int .i64 x.f0).wf = true ∧ (Lit.int .i64 x.f1).wf = true)) → (Lit.int .i64 a3).wf = true → (Lit.int .i64 a4).wf = true → (Lit.int .i64 a5).wf = true → ∃ k, laws_FnExactDecide.f k l0_0 a0_1 a0_2 l0_3 a0_4 a0_5 a0_6 a0_7 l1 l2 a3 a4 a5 = some true := by
  intro l a b l' a' b' m n ns ls now count want hl _ _ hl' _ _ _ _ hns hls _ _ _
  apply Ev.rounds (g := fun k => laws_FnExactDecide.f k l a b l' a' b' m n ns ls now count want)
  unfold laws_FnExactDecide.f
  rcases szBehave_ends l hl.1 a b l' hl'.1 a' b' m n 1048576 (by omega) (by omega) with h | ⟨L, h, h0, hL, h1, h2⟩
  · rw [h]
    exact Ev.now true
  · rw [h]
    refine Ev.bind0 rfl (Ev.neg (by omega) ?_)
    unfold laws_szNoteS.f laws_szMoveS.f
    rw [sz_len hns.1 h0 hL]
    by_cases h3 : L - (ns.length : Int) < 0
    · rw [if_pos h3]
      exact Ev.now true
    · rw [if_neg h3]
      refine Ev.bind0 rfl (Ev.neg h3 ?_)
      rw [sz_len hls.1 (show 0 ≤ L - (ns.length : Int) by omega) (by omega)]
      by_cases h4 : L - (ns.length : Int) - (ls.length : Int) < 0
      · rw [if_pos h4]
        exact Ev.now true
      · rw [if_neg h4]
        refine Ev.bind0 rfl (Ev.neg h4 ?_)
        have hs1 : ns.length ≤ 1048576 := by omega
        have hs2 : ls.length ≤ 1048576 := by omega
        have e1 : (l.map cvPolicy).length ≤ 1048576 := by rw [List.length_map]; exact h1
        have e2 : (l'.map cvPolicy).length ≤ 1048576 := by rw [List.length_map]; exact h2
        have e3 : (ns.map cvNote).length ≤ 1048576 := by rw [List.length_map]; exact hs1
        have e4 : (ls.map cvMove).length ≤ 1048576 := by rw [List.length_map]; exact hs2
        have hb := ev_toBehave l h1 a b l' h2 a' b' m n
        have hn := ev_toNoteS ns hs1
        have hm := ev_toMoveS ls hs2
        refine Ev.bind hb (Ev.bind hn (Ev.bind hm (Ev.bind (decide_spec _ _ _ _ _ _ _ _ _ e3 _ e4 _ _ _) (Ev.bind hb (Ev.bind hn (Ev.bind hm (Ev.bind (decide_impl _ e1 _ _ _ e2 _ _ _ _ _ e3 _ e4 _ _ _) (Ev.pos rfl (Ev.bind hb (Ev.bind (ev_eqBehave _ e1 _ _ _ e2 _ _ _ _) (Ev.pos rfl (Ev.bind hn (Ev.bind (ev_eqNoteS _ e3) (Ev.pos rfl (Ev.bind hm (Ev.bind (ev_eqMoveS _ e4) ?_))))))))))))))))
        exact Ev.now true
end Go.Proofs.Ytfjjlipfjddaiaa.Pure
