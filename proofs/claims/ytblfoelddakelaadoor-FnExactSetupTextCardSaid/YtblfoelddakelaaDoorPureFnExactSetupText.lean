/- For every Setup the law of SetupText answers true.
   Conditions: none. -/
import Derived.Test.YtblfoelddakelaaDoorVMore
import Derived.Test.YtblfoelddakelaaDoorU8
import Derived.Test.YtblfoelddakelaaDoorU11
import Derived.Test.YtblfoelddakelaaDoorU22
import Derived.Test.YtblfoelddakelaaDoorU12
import Derived.Test.YtblfoelddakelaaDoorU33
import Derived.Test.YtblfoelddakelaaDoorU13
import Derived.Test.YtblfoelddakelaaDoorU5
import Derived.Test.YtblfoelddakelaaDoorU32
import Derived.Test.YtblfoelddakelaaDoorU23
import Derived.Test.YtblfoelddakelaaDoorU14
import Derived.Test.YtblfoelddakelaaDoorU6
import Derived.Test.YtblfoelddakelaaDoorU9
import Derived.Test.YtblfoelddakelaaDoorU25
import Derived.Test.YtblfoelddakelaaDoorU17
import Derived.Test.YtblfoelddakelaaDoorU27
import Derived.Test.YtblfoelddakelaaDoorU15
import Derived.Test.YtblfoelddakelaaDoorU24
import Derived.Test.YtblfoelddakelaaDoorU16
import Derived.Lib.ItoaLen
import Derived.Lib.ItoaMem
import Derived.Lib.Join
import Derived.Test.YtblfoelddakelaaDoorU1
import Derived.Test.YtblfoelddakelaaDoorU3
import Derived.Test.YtblfoelddakelaaDoorU7
import Derived.Test.YtblfoelddakelaaDoorU10
import Derived.Lib.TrimByte
import Derived.Test.YtblfoelddakelaaDoorU19
import Derived.Test.YtblfoelddakelaaDoorU28
import Derived.Test.YtblfoelddakelaaDoorU18
import Derived.Test.YtblfoelddakelaaDoorU20
import Derived.Test.YtblfoelddakelaaDoorU29
import Derived.Test.YtblfoelddakelaaDoorU21
import Derived.Test.YtblfoelddakelaaDoorU30
import Derived.Test.YtblfoelddakelaaDoorU34
/- Plain facts: loops of the printed functions, from some number of rounds on.
   Conditions: none. -/
namespace Go.Proofs.YtblfoelddakelaaDoor.Base
open Go.RowKit Go.Proofs.YtblfoelddakelaaDoorW.PrintWords Go.Proofs.YtblfoelddakelaaDoorW.PrintMore

theorem wr_succ {i n : Nat} (h : i < n) (hn : n ≤ 4611686018427387904) : wrap64 ((i : Int) + 1) = ((i + 1 : Nat) : Int) := by
  unfold wrap64; omega
theorem wr_pred {i : Nat} (h : 0 < i) (hn : i ≤ 4611686018427387904) : wrap64 ((i : Int) - 1) = ((i - 1 : Nat) : Int) := by
  unfold wrap64; omega
theorem wr_id {x : Int} (h : -9223372036854775808 ≤ x) (h' : x ≤ 9223372036854775807) : wrap64 x = x := by
  unfold wrap64; omega

theorem Ev.pos {α : Type} {c : Prop} [Decidable c] {f g : Nat → Option α} {r : α} (hc : c) (h : Ev f r) : Ev (fun k => if c then f k else g k) r := by
  obtain ⟨K, h⟩ := h
  exact ⟨K, fun k hk => (if_pos hc).trans (h k hk)⟩
theorem Ev.neg {α : Type} {c : Prop} [Decidable c] {f g : Nat → Option α} {r : α} (hc : ¬ c) (h : Ev g r) : Ev (fun k => if c then f k else g k) r := by
  obtain ⟨K, h⟩ := h
  exact ⟨K, fun k hk => (if_neg hc).trans (h k hk)⟩
/-- A bind of what needs no rounds. -/
theorem Ev.bind0 {α β : Type} {o : Option α} {a : α} {f : Nat → α → Option β} {r : β} (h : o = some a) (k : Ev (fun n => f n a) r) : Ev (fun n => o.bind (f n)) r := by
  subst h; exact k
theorem Ev.unique {α : Type} {g : Nat → Option α} {r q : α} (h : Ev g r) (h' : Ev g q) : r = q := by
  obtain ⟨K, h⟩ := h
  obtain ⟨K', h'⟩ := h'
  have a := h (max K K') (Nat.le_max_left _ _)
  rw [h' (max K K') (Nat.le_max_right _ _)] at a
  exact (Option.some.inj a).symm

/-- A loop over 0 .. n-1 with a state. -/
theorem ev_fold {σ ρ : Type} {F : Nat → σ → Int → Option ρ} {n : Nat} {st : σ → Nat → σ} {out : σ → ρ} {Inv : σ → Nat → Prop}
    (hend : ∀ s, Inv s n → Ev (fun k => F k s (n : Int)) (out s))
    (hstep : ∀ s i, i < n → Inv s i → Inv (st s i) (i + 1) ∧ ∀ r, Ev (fun k => F k (st s i) ((i + 1 : Nat) : Int)) r → Ev (fun k => F k s (i : Int)) r) :
    ∀ d i s, i + d = n → Inv s i → Ev (fun k => F k s (i : Int)) (out ((List.range' i d).foldl st s)) := by
  intro d
  induction d with
  | zero =>
    intro i s hi hI
    obtain rfl : i = n := by omega
    simpa using hend s hI
  | succ d ih =>
    intro i s hi hI
    obtain ⟨hI', hs⟩ := hstep s i (by omega) hI
    rw [List.range'_succ, List.foldl_cons]
    exact hs _ (ih (i + 1) (st s i) (by omega) hI')

theorem fold_inv {σ : Type} {n : Nat} {st : σ → Nat → σ} {Inv : σ → Nat → Prop} (hstep : ∀ s i, i < n → Inv s i → Inv (st s i) (i + 1)) :
    ∀ d i s, i + d = n → Inv s i → Inv ((List.range' i d).foldl st s) n := by
  intro d
  induction d with
  | zero => intro i s hi h; obtain rfl : i = n := by omega
            simpa using h
  | succ d ih => intro i s hi h; rw [List.range'_succ, List.foldl_cons]; exact ih (i + 1) _ (by omega) (hstep s i (by omega) h)

/-- A loop over 0 .. n-1 that ends at the first i where p does not hold. -/
theorem ev_all {F : Nat → Int → Option Bool} {n : Nat} {p : Nat → Bool} {q : Bool}
    (hend : Ev (fun k => F k (n : Int)) q)
    (hno : ∀ i, i < n → p i = false → Ev (fun k => F k (i : Int)) false)
    (hstep : ∀ i r, i < n → p i = true → Ev (fun k => F k ((i + 1 : Nat) : Int)) r → Ev (fun k => F k (i : Int)) r) :
    ∀ d i, i + d = n → Ev (fun k => F k (i : Int)) ((List.range' i d).all p && q) := by
  intro d
  induction d with
  | zero =>
    intro i hi
    obtain rfl : i = n := by omega
    simpa using hend
  | succ d ih =>
    intro i hi
    rw [List.range'_succ, List.all_cons]
    cases hp : p i with
    | false => simpa using hno i (by omega) hp
    | true =>
      rw [Bool.true_and]
      exact hstep i _ (by omega) hp (ih (i + 1) (by omega))

/-- The same where each round takes one. -/
theorem ev_all1 {F : Nat → Int → Option Bool} {n : Nat} {p : Nat → Bool} {q : Bool}
    (hend : Ev (fun k => F k (n : Int)) q)
    (hstep : ∀ i k, i < n → F (k + 1) (i : Int) = if p i = true then F k ((i + 1 : Nat) : Int) else some false) :
    Ev (fun k => F k 0) ((List.range' 0 n).all p && q) :=
  ev_all (F := F) (n := n) (p := p) (q := q) hend (fun i hi hp => Ev.step (f := fun _ => some false) (fun k => by rw [hstep i k hi, hp]; simp) (Ev.now false))
    (fun i r hi hp h => Ev.step (fun k => by rw [hstep i k hi, hp]; simp) h) n 0 (by omega)

/-- A loop that fills a list, one place a round. -/
theorem ev_fill {β : Type} {F : Nat → List β → Int → Option (List β)} {n : Nat} {g : Nat → β}
    (hend : ∀ s : List β, s.length = n → Ev (fun k => F k s (n : Int)) s)
    (hstep : ∀ (s : List β) (i : Nat) (r : List β), i < n → s.length = n → Ev (fun k => F k (s.set i (g i)) ((i + 1 : Nat) : Int)) r → Ev (fun k => F k s (i : Int)) r)
    (s : List β) (hs : s.length = n) : Ev (fun k => F k s 0) ((List.range n).map g) := by
  have h := ev_fold (F := F) (n := n) (st := fun s i => s.set i (g i)) (out := fun s => s) (Inv := fun s i => s.length = n ∧ ∀ j, j < i → s[j]? = some (g j)) (fun s hI => hend s hI.1)
    (fun s i hi hI => ⟨⟨by rw [List.length_set]; exact hI.1, fun j hj => by
      by_cases hji : j = i
      · subst hji; rw [List.getElem?_set_self (by omega)]
      · rw [List.getElem?_set_ne (by omega)]; exact hI.2 j (by omega)⟩, fun r h => hstep s i r hi hI.1 h⟩) n 0 s (by omega) ⟨hs, fun j hj => absurd hj (Nat.not_lt_zero _)⟩
  have e : (List.range' 0 n).foldl (fun s i => s.set i (g i)) s = (List.range n).map g := by
    have key : ∀ d i (s : List β), s.length = n → i + d = n → (∀ j, j < i → s[j]? = some (g j)) → ∀ j, j < n → ((List.range' i d).foldl (fun s i => s.set i (g i)) s)[j]? = some (g j) ∧ ((List.range' i d).foldl (fun s i => s.set i (g i)) s).length = n := by
      intro d
      induction d with
      | zero => intro i s hs hi hj j hjn; simpa using ⟨hj j (by omega), hs⟩
      | succ d ih =>
        intro i s hs hi hj j hjn
        rw [List.range'_succ, List.foldl_cons]
        refine ih (i + 1) _ (by rw [List.length_set]; exact hs) (by omega) (fun j hj' => ?_) j hjn
        by_cases hji : j = i
        · subst hji; rw [List.getElem?_set_self (by omega)]
        · rw [List.getElem?_set_ne (by omega)]; exact hj j (by omega)
    apply List.ext_getElem?
    intro j
    by_cases hj : j < n
    · rw [(key n 0 s hs (by omega) (fun j hj => absurd hj (Nat.not_lt_zero _)) j hj).1]
      simp [hj]
    · have hl : ((List.range' 0 n).foldl (fun s i => s.set i (g i)) s).length = n := by
        by_cases h0 : n = 0
        · subst h0; simpa using hs
        · exact (key n 0 s hs (by omega) (fun j hj => absurd hj (Nat.not_lt_zero _)) 0 (by omega)).2
      rw [List.getElem?_eq_none (by omega)]
      simp [hj]
  rw [e] at h
  exact h

theorem map_range_getD {α β : Type} (l : List α) (d : α) (f : α → β) : ((List.range l.length).map fun i => f (l.getD i d)) = l.map f := by
  apply List.ext_getElem?
  intro i
  by_cases hi : i < l.length
  · simp [hi, List.getD]
  · simp [hi]

theorem sz_len {n : Nat} (hn : n ≤ 9223372036854775807) {L : Int} (h0 : 0 ≤ L) (hL : L ≤ 1048576) : wrap64 (L - (n : Int)) = L - n := by
  unfold wrap64; omega
end Go.Proofs.YtblfoelddakelaaDoor.Base
/- Copying a list of Policys gives the list; a list of Policys equals itself.
   Conditions: none. -/
namespace Go.Proofs.YtblfoelddakelaaDoor.Base
open Go.RowKit Go.Proofs.YtblfoelddakelaaDoorW.PrintWords Go.Proofs.YtblfoelddakelaaDoorW.PrintMore Go.Proofs.YtblfoelddakelaaDoor.U
def cvPolicy (x : S94) : S67 := ⟨x.f0, x.f1, x.f2⟩
theorem ev_toPolicyS (l : List S94) (hl : l.length ≤ 1048576) : Ev (fun k => laws_toPolicyS.f k l) (l.map cvPolicy) := by
  unfold laws_toPolicyS.f
  refine Ev.pos (by omega) (Ev.pos (by simp; omega) ?_)
  have h := ev_fill (F := fun k s i => laws_toPolicyS.l0 k l s i) (n := l.length) (g := fun i => cvPolicy (l.getD i z94)) ?_ ?_ (List.replicate l.length z67) (by simp)
  · rw [map_range_getD] at h
    simpa using h
  · intro s hs
    exact Ev.step (f := fun _ => some s) (fun k => by simp only [laws_toPolicyS.l0]; rw [if_neg (by omega)]) (Ev.now s)
  · intro s i r hi hs h
    refine Ev.step (fun k => ?_) h
    simp only [laws_toPolicyS.l0, laws_toPolicy.f, Option.bind_some]
    rw [if_pos (by omega), if_pos (by omega), if_pos (by omega), wr_succ hi (by omega)]
    simp [cvPolicy, rd_T94]
theorem ev_eqPolicyS (l : List S67) (hl : l.length ≤ 1048576) : Ev (fun k => laws_eqPolicyS.f k l l) true := by
  unfold laws_eqPolicyS.f
  refine Ev.pos rfl ?_
  have h := ev_all (F := fun k i => laws_eqPolicyS.l0 k l l i) (n := l.length) (p := fun _ => true) (q := true) ?_ ?_ ?_ l.length 0 (by omega)
  · have e : (List.range' 0 l.length).all (fun _ => true) = true := by rw [List.all_eq_true]; intros; rfl
    rw [e] at h
    exact h
  · exact Ev.step (f := fun _ => some true) (fun k => by simp only [laws_eqPolicyS.l0]; rw [if_neg (by omega)]) (Ev.now true)
  · intro i _ h; cases h
  · intro i r hi _ h
    refine Ev.step (fun k => ?_) h
    simp only [laws_eqPolicyS.l0, laws_eqPolicy.f, if_true, Option.bind_some]
    rw [if_pos (by omega), if_pos (by omega), if_pos (by omega), wr_succ hi (by omega)]
end Go.Proofs.YtblfoelddakelaaDoor.Base
/- Copying a Side or a Behave gives it; each equals itself; their sizes.
   Conditions: none. -/
namespace Go.Proofs.YtblfoelddakelaaDoor.Base
open Go.RowKit Go.Proofs.YtblfoelddakelaaDoorW.PrintWords Go.Proofs.YtblfoelddakelaaDoorW.PrintMore Go.Proofs.YtblfoelddakelaaDoor.U
theorem ev_toSide (l : List S94) (hl : l.length ≤ 1048576) (a b : Int) : Ev (fun k => laws_toSide.f k l a b) (l.map cvPolicy, a, b) := by
  unfold laws_toSide.f
  exact Ev.bind (ev_toPolicyS l hl) (Ev.now _)
theorem ev_toBehave (l : List S94) (hl : l.length ≤ 1048576) (a b : Int) (l' : List S94) (hl' : l'.length ≤ 1048576) (a' b' m n : Int) : Ev (fun k => laws_toBehave.f k l a b l' a' b' m n) (l.map cvPolicy, a, b, l'.map cvPolicy, a', b', m, n) := by
  unfold laws_toBehave.f
  exact Ev.bind (ev_toSide l hl a b) (Ev.bind (ev_toSide l' hl' a' b') (Ev.now _))
theorem ev_eqSide (l : List S67) (hl : l.length ≤ 1048576) (a b : Int) : Ev (fun k => laws_eqSide.f k l a b l a b) true := by
  unfold laws_eqSide.f
  exact Ev.bind (ev_eqPolicyS l hl) (Ev.pos rfl (Ev.pos rfl (Ev.pos rfl (Ev.now _))))
theorem ev_eqBehave (l : List S67) (hl : l.length ≤ 1048576) (a b : Int) (l' : List S67) (hl' : l'.length ≤ 1048576) (a' b' m n : Int) : Ev (fun k => laws_eqBehave.f k l a b l' a' b' m n l a b l' a' b' m n) true := by
  unfold laws_eqBehave.f
  exact Ev.bind (ev_eqSide l hl a b) (Ev.pos rfl (Ev.bind (ev_eqSide l' hl' a' b') (Ev.pos rfl (Ev.pos rfl (Ev.pos rfl (Ev.now _))))))
theorem szSide_ends (l : List S94) (hl : l.length ≤ 9223372036854775807) (a b L : Int) (h0 : 0 ≤ L) (hL : L ≤ 1048576) : laws_szSide.f l a b L = some (-1) ∨ ∃ L', laws_szSide.f l a b L = some L' ∧ 0 ≤ L' ∧ L' ≤ L ∧ l.length ≤ 1048576 := by
  unfold laws_szSide.f laws_szPolicyS.f
  rw [sz_len hl h0 hL]
  by_cases h : L - (l.length : Int) < 0
  · left; rw [if_pos h]; rfl
  · right; rw [if_neg h]; exact ⟨_, by rw [Option.bind_some, if_neg h], by omega, by omega, by omega⟩
theorem szBehave_ends (l : List S94) (hl : l.length ≤ 9223372036854775807) (a b : Int) (l' : List S94) (hl' : l'.length ≤ 9223372036854775807) (a' b' m n L : Int) (h0 : 0 ≤ L) (hL : L ≤ 1048576) : laws_szBehave.f l a b l' a' b' m n L = some (-1) ∨ ∃ L', laws_szBehave.f l a b l' a' b' m n L = some L' ∧ 0 ≤ L' ∧ L' ≤ L ∧ l.length ≤ 1048576 ∧ l'.length ≤ 1048576 := by
  unfold laws_szBehave.f
  rcases szSide_ends l hl a b L h0 hL with h | ⟨L1, h, h1, h2, h3⟩
  · left; rw [h]; rfl
  · rw [h, Option.bind_some, if_neg (by omega)]
    rcases szSide_ends l' hl' a' b' L1 h1 (by omega) with g | ⟨L2, g, g1, g2, g3⟩
    · left; rw [g]; rfl
    · right; rw [g, Option.bind_some, if_neg (by omega)]; exact ⟨L2, rfl, g1, by omega, h3, g3⟩
end Go.Proofs.YtblfoelddakelaaDoor.Base
/- Copying a list of goals gives it; it equals itself; its size.
   Conditions: none. -/
namespace Go.Proofs.YtblfoelddakelaaDoor.Base
open Go.RowKit Go.Proofs.YtblfoelddakelaaDoorW.PrintWords Go.Proofs.YtblfoelddakelaaDoorW.PrintMore Go.Proofs.YtblfoelddakelaaDoor.U
def cvGoal (x : S97) : S75 := ⟨x.f0, x.f1, x.f2⟩
theorem ev_toGoalS (l : List S97) (hl : l.length ≤ 1048576) : Ev (fun k => laws_toGoalS.f k l) (l.map cvGoal) := by
  unfold laws_toGoalS.f
  refine Ev.pos (by omega) (Ev.pos (by simp; omega) ?_)
  have h := ev_fill (F := fun k s i => laws_toGoalS.l0 k l s i) (n := l.length) (g := fun i => cvGoal (l.getD i z97)) ?_ ?_ (List.replicate l.length z75) (by simp)
  · rw [map_range_getD] at h
    simpa using h
  · intro s hs
    exact Ev.step (f := fun _ => some s) (fun k => by simp only [laws_toGoalS.l0]; rw [if_neg (by omega)]) (Ev.now s)
  · intro s i r hi hs h
    refine Ev.step (fun k => ?_) h
    simp only [laws_toGoalS.l0, laws_toGoal.f, Option.bind_some]
    rw [if_pos (by omega), if_pos (by omega), if_pos (by omega), wr_succ hi (by omega)]
    simp [cvGoal, rd_T97]
theorem eqGoal_self (a : ByteArray) (b c : Int) : laws_eqGoal.f a b c a b c = some true := by
  unfold laws_eqGoal.f
  rw [if_pos rfl, if_pos rfl, if_pos rfl]
theorem ev_eqGoalS (l : List S75) (hl : l.length ≤ 1048576) : Ev (fun k => laws_eqGoalS.f k l l) true := by
  unfold laws_eqGoalS.f
  refine Ev.pos rfl ?_
  have h := ev_all (F := fun k i => laws_eqGoalS.l0 k l l i) (n := l.length) (p := fun _ => true) (q := true) ?_ ?_ ?_ l.length 0 (by omega)
  · have e : (List.range' 0 l.length).all (fun _ => true) = true := by rw [List.all_eq_true]; intros; rfl
    rw [e] at h
    exact h
  · exact Ev.step (f := fun _ => some true) (fun k => by simp only [laws_eqGoalS.l0]; rw [if_neg (by omega)]) (Ev.now true)
  · intro i _ h; cases h
  · intro i r hi _ h
    refine Ev.step (fun k => ?_) h
    simp only [laws_eqGoalS.l0, eqGoal_self, if_true, Option.bind_some]
    rw [if_pos (by omega), if_pos (by omega), if_pos (by omega), wr_succ hi (by omega)]
/-- The size of goals: too great, or what is left. -/
theorem szGoalS_ends (l : List S97) (hl : l.length ≤ 9223372036854775807) (hs : ∀ x ∈ l, x.f0.size ≤ 9223372036854775807) (L : Int) (h0 : 0 ≤ L) (hL : L ≤ 1048576) : Ev (fun k => laws_szGoalS.f k l L) (-1) ∨ ∃ L', Ev (fun k => laws_szGoalS.f k l L) L' ∧ 0 ≤ L' ∧ L' ≤ L ∧ l.length ≤ 1048576 := by
  unfold laws_szGoalS.f
  rw [sz_len hl h0 hL]
  by_cases h : L - (l.length : Int) < 0
  · left; simp only [if_pos h]; exact Ev.now _
  · simp only [if_neg h]
    have hn : l.length ≤ 1048576 := by omega
    have key : ∀ d i (M : Int), i + d = l.length → 0 ≤ M → M ≤ L → Ev (fun k => laws_szGoalS.l0 k l M (i : Int)) (-1) ∨ ∃ L', Ev (fun k => laws_szGoalS.l0 k l M (i : Int)) L' ∧ 0 ≤ L' ∧ L' ≤ L := by
      intro d
      induction d with
      | zero =>
        intro i M hi h1 h2
        right
        exact ⟨M, Ev.step (f := fun _ => some M) (fun k => by simp only [laws_szGoalS.l0]; rw [if_neg (by omega)]) (Ev.now M), h1, h2⟩
      | succ d ih =>
        intro i M hi h1 h2
        have hil : i < l.length := by omega
        have hsz : (rd_T97 l i).f0.size ≤ 9223372036854775807 := by
          have e : rd_T97 l i = l[i] := by simp [rd_T97, List.getD_eq_getElem?_getD, hil]
          rw [e]; exact hs _ (List.getElem_mem hil)
        have hw : wrap64 (M - ((rd_T97 l i).f0.size : Int)) = M - ((rd_T97 l i).f0.size : Int) := wr_id (by omega) (by omega)
        by_cases g : M - ((rd_T97 l i).f0.size : Int) < 0
        · left
          refine Ev.step (f := fun _ => some (-1)) (fun k => ?_) (Ev.now _)
          simp only [laws_szGoalS.l0, laws_szGoal.f, hw]
          rw [if_pos (by omega), if_pos (by omega), if_pos g, Option.bind_some, if_pos (by omega)]
        · have st : ∀ k, laws_szGoalS.l0 (k + 1) l M (i : Int) = laws_szGoalS.l0 k l (M - ((rd_T97 l i).f0.size : Int)) ((i + 1 : Nat) : Int) := by
            intro k
            simp only [laws_szGoalS.l0, laws_szGoal.f, hw]
            rw [if_pos (by omega), if_pos (by omega), if_neg g, Option.bind_some, if_neg g, wr_succ hil (by omega)]
          rcases ih (i + 1) (M - ((rd_T97 l i).f0.size : Int)) (by omega) (by omega) (by omega) with h' | ⟨L', h', h3, h4⟩
          · left; exact Ev.step st h'
          · right; exact ⟨L', Ev.step st h', h3, h4⟩
    rcases key l.length 0 (L - (l.length : Int)) (by omega) (by omega) (by omega) with h' | ⟨L', h', h3, h4⟩
    · left; exact h'
    · right; exact ⟨L', h', h3, h4, hn⟩
end Go.Proofs.YtblfoelddakelaaDoor.Base
/- Copying a Setup gives it; it equals itself; its size.
   Conditions: none. -/
namespace Go.Proofs.YtblfoelddakelaaDoor.Base
open Go.RowKit Go.Proofs.YtblfoelddakelaaDoorW.PrintWords Go.Proofs.YtblfoelddakelaaDoorW.PrintMore Go.Proofs.YtblfoelddakelaaDoor.U
theorem ev_toSetup (d f w : Int) (g : List S97) (hg : g.length ≤ 1048576) (l : List S94) (hl : l.length ≤ 1048576) (a b : Int) (l' : List S94) (hl' : l'.length ≤ 1048576) (a' b' m n : Int) : Ev (fun k => laws_toSetup.f k d f w g l a b l' a' b' m n) (d, f, w, g.map cvGoal, l.map cvPolicy, a, b, l'.map cvPolicy, a', b', m, n) := by
  unfold laws_toSetup.f laws_toRules.f
  exact Ev.bind0 rfl (Ev.bind (ev_toGoalS g hg) (Ev.bind (ev_toBehave l hl a b l' hl' a' b' m n) (Ev.now _)))
theorem eqRules_self (d f w : Int) : laws_eqRules.f d f w d f w = some true := by
  unfold laws_eqRules.f
  rw [if_pos rfl, if_pos rfl, if_pos rfl]
theorem ev_eqSetup (d f w : Int) (g : List S75) (hg : g.length ≤ 1048576) (l : List S67) (hl : l.length ≤ 1048576) (a b : Int) (l' : List S67) (hl' : l'.length ≤ 1048576) (a' b' m n : Int) : Ev (fun k => laws_eqSetup.f k d f w g l a b l' a' b' m n d f w g l a b l' a' b' m n) true := by
  unfold laws_eqSetup.f
  refine Ev.bind0 (eqRules_self d f w) (Ev.pos rfl (Ev.bind (ev_eqGoalS g hg) (Ev.pos rfl (Ev.bind (ev_eqBehave l hl a b l' hl' a' b' m n) (Ev.pos rfl (Ev.now _))))))
theorem szSetup_ends (d f w : Int) (g : List S97) (hg : g.length ≤ 9223372036854775807) (hs : ∀ x ∈ g, x.f0.size ≤ 9223372036854775807) (l : List S94) (hl : l.length ≤ 9223372036854775807) (a b : Int) (l' : List S94) (hl' : l'.length ≤ 9223372036854775807) (a' b' m n L : Int) (h0 : 0 ≤ L) (hL : L ≤ 1048576) :
    Ev (fun k => laws_szSetup.f k d f w g l a b l' a' b' m n L) (-1) ∨ ∃ L', Ev (fun k => laws_szSetup.f k d f w g l a b l' a' b' m n L) L' ∧ 0 ≤ L' ∧ L' ≤ L ∧ g.length ≤ 1048576 ∧ l.length ≤ 1048576 ∧ l'.length ≤ 1048576 := by
  unfold laws_szSetup.f
  rcases szGoalS_ends g hg hs L h0 hL with h | ⟨L1, h, h1, h2, h3⟩
  · left; exact Ev.bind h (Ev.pos (by omega) (Ev.now _))
  · rcases szBehave_ends l hl a b l' hl' a' b' m n L1 h1 (by omega) with q | ⟨L2, q, q1, q2, q3, q4⟩
    · left; exact Ev.bind h (Ev.neg (by omega) (Ev.bind0 q (Ev.pos (by omega) (Ev.now _))))
    · right; exact ⟨L2, Ev.bind h (Ev.neg (by omega) (Ev.bind0 q (Ev.neg (by omega) (Ev.now _)))), q1, by omega, h3, q3, q4⟩
end Go.Proofs.YtblfoelddakelaaDoor.Base
/- SideOk of the program and of the reference is one plain test.
   Conditions: none. -/
namespace Go.Proofs.YtblfoelddakelaaDoor.Base
open Go.RowKit Go.Proofs.YtblfoelddakelaaDoorW.PrintWords Go.Proofs.YtblfoelddakelaaDoorW.PrintMore Go.Proofs.YtblfoelddakelaaDoor.U
theorem in_impl (a b c : Int) : impl_in.f a b c = some (decide (b ≤ a ∧ a ≤ c)) := by
  unfold impl_in.f
  by_cases h : a ≥ b
  · rw [if_pos h]; have h' : b ≤ a := h; simp [h']
  · rw [if_neg h]; have h' : ¬ b ≤ a := h; simp [h']
theorem in_spec (a b c : Int) : spec_l01In.f a b c = some (decide (b ≤ a ∧ a ≤ c)) := by
  unfold spec_l01In.f
  by_cases h : b ≤ a
  · rw [if_pos h]; simp [h]
  · rw [if_neg h]; simp [h]
def sdP (l : List S67) (i : Nat) : Bool := decide (0 ≤ (rd_T67 l i).f0 ∧ (rd_T67 l i).f0 ≤ 1) && (decide (1 ≤ (rd_T67 l i).f1 ∧ (rd_T67 l i).f1 ≤ 1000) && decide (1 ≤ (rd_T67 l i).f2 ∧ (rd_T67 l i).f2 ≤ 1000))
def sideOk (l : List S67) (sel win : Int) : Bool := (List.range' 0 l.length).all (sdP l) && (decide (l.length ≤ 3) && (decide (0 ≤ sel ∧ sel ≤ 2) && decide (0 ≤ win ∧ win ≤ 1000)))
theorem and3_ite {α : Type} (a b c : Bool) (x y : α) : (if (a && (b && c)) = true then x else y) = if a = true then (if b = true then (if c = true then x else y) else y) else y := by
  cases a <;> cases b <;> cases c <;> rfl
theorem sideOk_spec (l : List S67) (sel win : Int) : Ev (fun k => spec_SideOk.f k l sel win) (sideOk l sel win) := by
  unfold spec_SideOk.f sideOk
  by_cases h : (l.length : Int) > 3
  · rw [decide_eq_false (show ¬ l.length ≤ 3 by omega), Bool.false_and, Bool.and_false]
    exact Ev.pos h (Ev.step (f := fun _ => some false) (fun k => by simp [spec_SideOk.j0]) (Ev.now false))
  · rw [decide_eq_true (show l.length ≤ 3 by omega), Bool.true_and]
    refine Ev.neg h ?_
    rw [in_spec, in_spec]
    refine Ev.bind0 rfl ?_
    by_cases h1 : 0 ≤ sel ∧ sel ≤ 2
    · rw [decide_eq_true h1, Bool.true_and]
      refine Ev.pos rfl (Ev.bind0 rfl ?_)
      by_cases h2 : 0 ≤ win ∧ win ≤ 1000
      · rw [decide_eq_true h2]
        refine Ev.step (f := fun k => spec_SideOk.l0 k 0 l sel win) (fun k => by simp [spec_SideOk.j0]) ?_
        refine ev_all1 (F := fun k i => spec_SideOk.l0 k i l sel win) (Ev.step (f := fun _ => some true) (fun k => by simp only [spec_SideOk.l0]; rw [if_neg (by omega)]) (Ev.now true)) ?_
        intro i k hi
        simp only [spec_SideOk.l0, in_spec, Option.bind_some]
        rw [if_pos (by omega), if_pos (by omega), wr_succ hi (by omega)]
        unfold sdP
        rw [and3_ite]
      · rw [decide_eq_false h2, Bool.and_false]
        exact Ev.step (f := fun _ => some false) (fun k => by simp [spec_SideOk.j0]) (Ev.now false)
    · rw [decide_eq_false h1, Bool.false_and, Bool.and_false]
      refine Ev.neg (by decide) ?_
      exact Ev.step (f := fun _ => some false) (fun k => by simp [spec_SideOk.j0]) (Ev.now false)
theorem sideOk_impl (l : List S67) (hl : l.length ≤ 1048576) (sel win : Int) : Ev (fun k => impl_SideOk.f k l sel win) (sideOk l sel win) := by
  unfold impl_SideOk.f sideOk
  refine ev_all1 (F := fun k i => impl_SideOk.l0 k l (l.length : Int) i l sel win) (Ev.step (f := fun _ => some (decide (l.length ≤ 3) && (decide (0 ≤ sel ∧ sel ≤ 2) && decide (0 ≤ win ∧ win ≤ 1000)))) (fun k => ?_) (Ev.now _)) ?_
  · simp only [impl_SideOk.l0, in_impl, Option.bind_some]
    rw [if_neg (by omega)]
    by_cases h : l.length ≤ 3
    · rw [if_pos (show (l.length : Int) ≤ 3 by omega), decide_eq_true h, Bool.true_and]
      by_cases h1 : 0 ≤ sel ∧ sel ≤ 2
      · rw [decide_eq_true h1, if_pos rfl, Bool.true_and]
      · rw [decide_eq_false h1, if_neg (by decide), Bool.false_and]
    · rw [if_neg (show ¬ (l.length : Int) ≤ 3 by omega), decide_eq_false h, Bool.false_and]
  · intro i k hi
    simp only [impl_SideOk.l0, in_impl, Option.bind_some]
    rw [if_pos (by omega), if_pos (by omega), if_pos (by omega), wr_succ hi (by omega)]
    unfold sdP
    rw [and3_ite]
theorem sideOk_facts {l : List S67} {sel win : Int} (h : sideOk l sel win = true) : l.length ≤ 3 ∧ (0 ≤ sel ∧ sel ≤ 2) ∧ (0 ≤ win ∧ win ≤ 1000) ∧ ∀ i : Nat, i < l.length → (0 ≤ (rd_T67 l i).f0 ∧ (rd_T67 l i).f0 ≤ 1) ∧ (1 ≤ (rd_T67 l i).f1 ∧ (rd_T67 l i).f1 ≤ 1000) ∧ (1 ≤ (rd_T67 l i).f2 ∧ (rd_T67 l i).f2 ≤ 1000) := by
  unfold sideOk at h
  rw [Bool.and_eq_true, Bool.and_eq_true, Bool.and_eq_true, List.all_eq_true] at h
  refine ⟨of_decide_eq_true h.2.1, of_decide_eq_true h.2.2.1, of_decide_eq_true h.2.2.2, fun i hi => ?_⟩
  have := h.1 i (by rw [List.mem_range'_1]; omega)
  unfold sdP at this
  rw [Bool.and_eq_true, Bool.and_eq_true] at this
  exact ⟨of_decide_eq_true this.1, of_decide_eq_true this.2.1, of_decide_eq_true this.2.2⟩
end Go.Proofs.YtblfoelddakelaaDoor.Base
/- BehaveOk of the program and of the reference is one plain test.
   Conditions: none. -/
namespace Go.Proofs.YtblfoelddakelaaDoor.Base
open Go.RowKit Go.Proofs.YtblfoelddakelaaDoorW.PrintWords Go.Proofs.YtblfoelddakelaaDoorW.PrintMore Go.Proofs.YtblfoelddakelaaDoor.U
def behaveOk (ul : List S67) (us uw : Int) (dl : List S67) (ds dw : Int) (mn_ mx_ : Int) : Bool := sideOk ul us uw && (sideOk dl ds dw && decide (0 ≤ mn_ ∧ mn_ ≤ mx_ ∧ mx_ ≤ 1000))
theorem behaveOk_spec (ul : List S67) (us uw : Int) (dl : List S67) (ds dw : Int) (m n : Int) : Ev (fun k => spec_BehaveOk.f k ul us uw dl ds dw m n) (behaveOk ul us uw dl ds dw m n) := by
  unfold spec_BehaveOk.f behaveOk
  refine Ev.bind (sideOk_spec ul us uw) ?_
  cases sideOk ul us uw with
  | false => exact Ev.neg (by decide) (Ev.now _)
  | true =>
    refine Ev.pos rfl (Ev.bind (sideOk_spec dl ds dw) ?_)
    cases sideOk dl ds dw with
    | false => exact Ev.neg (by decide) (Ev.now _)
    | true =>
      refine Ev.pos rfl ?_
      rw [in_spec, in_spec]
      refine Ev.bind0 rfl ?_
      by_cases h : 0 ≤ n ∧ n ≤ 1000
      · refine Ev.pos (decide_eq_true h) ?_
        have e : (decide (0 ≤ m ∧ m ≤ n)) = (true && (true && decide (0 ≤ m ∧ m ≤ n ∧ n ≤ 1000))) := by rw [Bool.true_and, Bool.true_and]; exact decide_eq_decide.2 (by omega)
        rw [← e]
        exact Ev.now _
      · rw [decide_eq_false (show ¬ (0 ≤ m ∧ m ≤ n ∧ n ≤ 1000) by omega)]
        exact Ev.neg (by simpa using h) (Ev.now _)
theorem behaveOk_impl (ul : List S67) (hu : ul.length ≤ 1048576) (us uw : Int) (dl : List S67) (hd : dl.length ≤ 1048576) (ds dw : Int) (m n : Int) : Ev (fun k => impl_BehaveOk.f k ul us uw dl ds dw m n) (behaveOk ul us uw dl ds dw m n) := by
  unfold impl_BehaveOk.f behaveOk
  refine Ev.bind (sideOk_impl ul hu us uw) ?_
  cases sideOk ul us uw with
  | false => exact Ev.neg (by decide) (Ev.now _)
  | true =>
    refine Ev.pos rfl (Ev.bind (sideOk_impl dl hd ds dw) ?_)
    cases sideOk dl ds dw with
    | false => exact Ev.neg (by decide) (Ev.now _)
    | true =>
      refine Ev.pos rfl ?_
      by_cases h : m ≥ 0
      · refine Ev.pos h ?_
        by_cases h1 : m ≤ n
        · refine Ev.pos h1 ?_
          have e : (decide (n ≤ 1000)) = (true && (true && decide (0 ≤ m ∧ m ≤ n ∧ n ≤ 1000))) := by rw [Bool.true_and, Bool.true_and]; exact decide_eq_decide.2 (by omega)
          rw [← e]
          exact Ev.now _
        · rw [decide_eq_false (show ¬ (0 ≤ m ∧ m ≤ n ∧ n ≤ 1000) by omega)]
          exact Ev.neg h1 (Ev.now _)
      · rw [decide_eq_false (show ¬ (0 ≤ m ∧ m ≤ n ∧ n ≤ 1000) by omega)]
        exact Ev.neg h (Ev.now _)
theorem behaveOk_facts {ul : List S67} {us uw : Int} {dl : List S67} {ds dw m n : Int} (h : behaveOk ul us uw dl ds dw m n = true) : sideOk ul us uw = true ∧ sideOk dl ds dw = true ∧ 0 ≤ m ∧ m ≤ n ∧ n ≤ 1000 := by
  unfold behaveOk at h
  rw [Bool.and_eq_true, Bool.and_eq_true] at h
  exact ⟨h.1, h.2.1, of_decide_eq_true h.2.2⟩
end Go.Proofs.YtblfoelddakelaaDoor.Base
/- SetupOk of the program and of the reference is one plain test.
   Conditions: none. -/
namespace Go.Proofs.YtblfoelddakelaaDoor.Base
open Go.RowKit Go.Proofs.YtblfoelddakelaaDoorW.PrintWords Go.Proofs.YtblfoelddakelaaDoorW.PrintMore Go.Proofs.YtblfoelddakelaaDoorW.PrintLast Go.Proofs.YtblfoelddakelaaDoor.U

def nmP (t : ByteArray) (i : Nat) : Bool := (decide (97 ≤ bt t i) && decide (bt t i ≤ 122)) || (decide (48 ≤ bt t i) && decide (bt t i ≤ 57))
def nameOk (t : ByteArray) : Bool := (List.range' 0 t.size).all (nmP t) && decide (1 ≤ (t.size : Int) ∧ (t.size : Int) ≤ 12)
theorem nm_ite {α : Type} (b : Int) (x y : α) : (if b < 97 then (if b < 48 then y else if b > 57 then y else x) else if b > 122 then (if b < 48 then y else if b > 57 then y else x) else x) = if ((decide (97 ≤ b) && decide (b ≤ 122)) || (decide (48 ≤ b) && decide (b ≤ 57))) = true then x else y := by
  simp only [Bool.or_eq_true, Bool.and_eq_true, decide_eq_true_eq]
  by_cases h1 : b < 97
  · rw [if_pos h1]
    by_cases h2 : b < 48
    · rw [if_pos h2, if_neg (by omega)]
    · rw [if_neg h2]
      by_cases h3 : b > 57
      · rw [if_pos h3, if_neg (by omega)]
      · rw [if_neg h3, if_pos (by omega)]
  · rw [if_neg h1]
    by_cases h4 : b > 122
    · rw [if_pos h4, if_neg (show ¬ b < 48 by omega), if_pos (show b > 57 by omega), if_neg (by omega)]
    · rw [if_neg h4, if_pos (by omega)]
theorem wr_succ' {i n : Nat} (h : i < n) (hn : n ≤ 9223372036854775807) : wrap64 ((i : Int) + 1) = ((i + 1 : Nat) : Int) := by
  unfold wrap64; omega
theorem nameOk_impl (t : ByteArray) (ht : t.size ≤ 9223372036854775807) : Ev (fun k => impl_NameOk.f k t) (nameOk t) := by
  unfold impl_NameOk.f nameOk
  refine ev_all1 (F := fun k i => impl_NameOk.l0 k t (t.size : Int) i) (Ev.step (f := fun _ => some (decide (1 ≤ (t.size : Int) ∧ (t.size : Int) ≤ 12))) (fun k => ?_) (Ev.now _)) ?_
  · simp only [impl_NameOk.l0, in_impl, Option.bind_some]
    rw [if_neg (by omega)]
  · intro i k hi
    simp only [impl_NameOk.l0]
    rw [if_pos (by omega), if_pos (by omega), if_pos (by omega), wr_succ' hi ht, nm_ite]
    rfl
theorem nameOk_spec (t : ByteArray) (ht : t.size ≤ 9223372036854775807) : Ev (fun k => spec_NameOk.f k t) (nameOk t) := by
  unfold spec_NameOk.f nameOk
  rw [in_spec]
  refine Ev.bind0 rfl ?_
  by_cases h : 1 ≤ (t.size : Int) ∧ (t.size : Int) ≤ 12
  · rw [decide_eq_true h]
    refine Ev.pos rfl ?_
    refine ev_all1 (F := fun k i => spec_NameOk.l0 k t i) (Ev.step (f := fun _ => some true) (fun k => by simp only [spec_NameOk.l0]; rw [if_neg (by omega)]) (Ev.now true)) ?_
    intro i k hi
    simp only [spec_NameOk.l0]
    rw [if_pos (by omega), if_pos (by omega), wr_succ' hi ht, nm_ite]
    rfl
  · rw [decide_eq_false h, Bool.and_false]
    exact Ev.neg (by decide) (Ev.now _)

def goalOk (g : S75) : Bool := nameOk g.f0 && (decide (1 ≤ g.f1 ∧ g.f1 ≤ 1000000) && decide (0 ≤ g.f2 ∧ g.f2 ≤ 1000))
theorem goalOk_impl (g : S75) (hg : g.f0.size ≤ 9223372036854775807) : Ev (fun k => impl_GoalOk.f k g.f0 g.f1 g.f2) (goalOk g) := by
  unfold impl_GoalOk.f goalOk
  refine Ev.bind (nameOk_impl _ hg) ?_
  cases nameOk g.f0 with
  | false => exact Ev.neg (by decide) (Ev.now _)
  | true =>
    rw [in_impl, in_impl, Bool.true_and]
    refine Ev.pos rfl (Ev.bind0 rfl ?_)
    cases decide (1 ≤ g.f1 ∧ g.f1 ≤ 1000000) with
    | false => exact Ev.neg (by decide) (Ev.now _)
    | true => exact Ev.pos rfl (Ev.bind0 rfl (Ev.now _))
theorem goalOk_spec (g : S75) (hg : g.f0.size ≤ 9223372036854775807) : Ev (fun k => spec_GoalOk.f k g.f0 g.f1 g.f2) (goalOk g) := by
  unfold spec_GoalOk.f goalOk
  refine Ev.bind (nameOk_spec _ hg) ?_
  cases nameOk g.f0 with
  | false => exact Ev.neg (by decide) (Ev.now _)
  | true =>
    rw [in_spec, in_spec, Bool.true_and]
    refine Ev.pos rfl (Ev.bind0 rfl ?_)
    cases decide (1 ≤ g.f1 ∧ g.f1 ≤ 1000000) with
    | false => exact Ev.neg (by decide) (Ev.now _)
    | true => exact Ev.pos rfl (Ev.bind0 rfl (Ev.now _))

def rulesOk (d f w : Int) : Bool := decide (0 ≤ d ∧ d ≤ 1000) && (decide (0 ≤ f ∧ f ≤ 1000) && decide (0 ≤ w ∧ w ≤ 1000))
theorem rulesOk_impl (d f w : Int) : impl_RulesOk.f d f w = some (rulesOk d f w) := by
  unfold impl_RulesOk.f rulesOk
  rw [in_impl, in_impl, in_impl, Option.bind_some, Option.bind_some, Option.bind_some]
  cases decide (0 ≤ d ∧ d ≤ 1000) <;> cases decide (0 ≤ f ∧ f ≤ 1000) <;> rfl
theorem rulesOk_spec (d f w : Int) : spec_RulesOk.f d f w = some (rulesOk d f w) := by
  unfold spec_RulesOk.f rulesOk
  rw [in_spec, in_spec, in_spec, Option.bind_some, Option.bind_some, Option.bind_some]
  cases decide (0 ≤ d ∧ d ≤ 1000) <;> cases decide (0 ≤ f ∧ f ≤ 1000) <;> rfl

/-- The goal at i is well, and no goal ahead of it has its metric. -/
def glQ (l : List S75) (i k : Nat) : Bool := !((rd_T75 l k).f0.toList == (rd_T75 l i).f0.toList)
def glP (l : List S75) (i : Nat) : Bool := goalOk (rd_T75 l i) && (List.range' 0 i).all (glQ l i)
def setupOk (d f w : Int) (l : List S75) (ul : List S67) (us uw : Int) (dl : List S67) (ds dw m n : Int) : Bool :=
  (List.range' 0 l.length).all (glP l) && (rulesOk d f w && (behaveOk ul us uw dl ds dw m n && decide (1 ≤ (l.length : Int) ∧ (l.length : Int) ≤ 3)))

theorem take_any (l : List S75) (p : S75 → Bool) : ∀ i : Nat, i ≤ l.length → (l.take i).any p = !((List.range' 0 i).all fun k => !(p (rd_T75 l k))) := by
  intro i
  induction i with
  | zero => intro _; rfl
  | succ i ih =>
    intro hi
    have e : l.take (i + 1) = l.take i ++ [rd_T75 l i] := by
      rw [List.take_add_one]
      simp [rd_T75, List.getD_eq_getElem?_getD, List.getElem?_eq_getElem (show i < l.length by omega)]
    rw [e, List.any_append, ih (by omega), List.range'_concat, List.all_append]
    simp [Bool.not_and]

theorem setupOk_impl (d f w : Int) (l : List S75) (hl : l.length ≤ 1048576) (hs : ∀ x ∈ l, x.f0.size ≤ 9223372036854775807) (ul : List S67) (hu : ul.length ≤ 1048576) (us uw : Int) (dl : List S67) (hd : dl.length ≤ 1048576) (ds dw m n : Int) :
    Ev (fun k => impl_SetupOk.f k d f w l ul us uw dl ds dw m n) (setupOk d f w l ul us uw dl ds dw m n) := by
  unfold impl_SetupOk.f setupOk
  refine ev_all (F := fun k i => impl_SetupOk.l0 k l (l.length : Int) i d f w l ul us uw dl ds dw m n) (n := l.length) (p := glP l) (q := rulesOk d f w && (behaveOk ul us uw dl ds dw m n && decide (1 ≤ (l.length : Int) ∧ (l.length : Int) ≤ 3))) ?_ ?_ ?_ l.length 0 (by omega)
  · refine Ev.step (fun k => rfl) (Ev.neg (by omega) ?_)
    rw [rulesOk_impl, in_impl]
    refine Ev.bind0 rfl ?_
    cases rulesOk d f w with
    | false => exact Ev.neg (by decide) (Ev.now _)
    | true =>
      refine Ev.pos rfl (Ev.bind (behaveOk_impl ul hu us uw dl hd ds dw m n) ?_)
      cases behaveOk ul us uw dl ds dw m n with
      | false => exact Ev.neg (by decide) (Ev.now _)
      | true => exact Ev.pos rfl (Ev.bind0 rfl (Ev.now _))
  · intro i hi hp
    have hm : (rd_T75 l i).f0.size ≤ 9223372036854775807 := hs _ (rd_mem_T75 l i hi)
    refine Ev.step (fun k => rfl) (Ev.pos (by omega) (Ev.pos (by omega) (Ev.pos (by omega) (Ev.bind (goalOk_impl _ hm) ?_))))
    unfold glP at hp
    cases hg : goalOk (rd_T75 l i) with
    | false => exact Ev.neg (by decide) (Ev.now _)
    | true =>
      rw [hg, Bool.true_and] at hp
      refine Ev.pos rfl (Ev.pos (by omega) (Ev.bind0 (show impl_hasMetric.f (l.take ((i : Int)).toNat) _ _ _ = some true from ?_) (Ev.pos rfl (Ev.now _))))
      unfold impl_hasMetric.f
      rw [Int.toNat_natCast, take_any l _ i (by omega)]
      have : (List.range' 0 i).all (fun k => !((rd_T75 l k).f0.toList == (rd_T75 l i).f0.toList)) = false := hp
      rw [this]; rfl
  · intro i r hi hp h
    have hm : (rd_T75 l i).f0.size ≤ 9223372036854775807 := hs _ (rd_mem_T75 l i hi)
    refine Ev.step (fun k => rfl) (Ev.pos (by omega) (Ev.pos (by omega) (Ev.pos (by omega) (Ev.bind (goalOk_impl _ hm) ?_))))
    unfold glP at hp
    rw [Bool.and_eq_true] at hp
    rw [hp.1]
    refine Ev.pos rfl (Ev.pos (by omega) (Ev.bind0 (show impl_hasMetric.f (l.take ((i : Int)).toNat) _ _ _ = some false from ?_) (Ev.neg (by decide) ?_)))
    · unfold impl_hasMetric.f
      rw [Int.toNat_natCast, take_any l _ i (by omega)]
      have : (List.range' 0 i).all (fun k => !((rd_T75 l k).f0.toList == (rd_T75 l i).f0.toList)) = true := hp.2
      rw [this]; rfl
    · rw [wr_succ hi (by omega)]
      exact h

theorem setup_loop (d f w : Int) (l : List S75) (hl : l.length ≤ 1048576) (hs : ∀ x ∈ l, x.f0.size ≤ 9223372036854775807) (ul : List S67) (us uw : Int) (dl : List S67) (ds dw m n : Int) :
    ∀ D i : Nat, i + D = l.length → Ev (fun k => spec_SetupOk.l0 k (i : Int) d f w l ul us uw dl ds dw m n) ((List.range' i D).all (glP l)) := by
  intro D
  induction D with
  | zero => intro i hi; exact Ev.step (fun k => rfl) (Ev.neg (by omega) (Ev.now _))
  | succ D ih =>
    intro i hi
    have hil : i < l.length := by omega
    have hm : (rd_T75 l i).f0.size ≤ 9223372036854775807 := hs _ (rd_mem_T75 l i hil)
    have h := ih (i + 1) (by omega)
    rw [List.range'_succ, List.all_cons]
    refine Ev.step (fun k => rfl) (Ev.pos (by omega) (Ev.pos (by omega) (Ev.bind (goalOk_spec _ hm) ?_)))
    unfold glP
    cases hg : goalOk (rd_T75 l i) with
    | false => exact Ev.neg (by decide) (Ev.now _)
    | true =>
      rw [Bool.true_and]
      refine Ev.pos rfl ?_
      refine ev_all (F := fun k j => spec_SetupOk.l1 k (i : Int) j d f w l ul us uw dl ds dw m n) (n := i) (p := glQ l i) ?_ ?_ ?_ i 0 (by omega)
      · refine Ev.step (fun k => rfl) (Ev.neg (by omega) ?_)
        rw [wr_succ hil (by omega)]
        exact h
      · intro j hj hq
        unfold glQ at hq
        refine Ev.step (fun k => rfl) (Ev.pos (by omega) (Ev.pos (by omega) (Ev.pos (by omega) (Ev.pos (by omega) (Ev.pos (by omega) (Ev.pos ?_ (Ev.now _)))))))
        simpa using hq
      · intro j r hj hq h'
        unfold glQ at hq
        refine Ev.step (fun k => rfl) (Ev.pos (by omega) (Ev.pos (by omega) (Ev.pos (by omega) (Ev.pos (by omega) (Ev.pos (by omega) (Ev.neg ?_ ?_))))))
        · simpa using hq
        · rw [wr_succ (show j < l.length by omega) (by omega)]
          exact h'
theorem setupOk_spec (d f w : Int) (l : List S75) (hl : l.length ≤ 1048576) (hs : ∀ x ∈ l, x.f0.size ≤ 9223372036854775807) (ul : List S67) (us uw : Int) (dl : List S67) (ds dw m n : Int) :
    Ev (fun k => spec_SetupOk.f k d f w l ul us uw dl ds dw m n) (setupOk d f w l ul us uw dl ds dw m n) := by
  unfold spec_SetupOk.f setupOk
  rw [rulesOk_spec, in_spec]
  refine Ev.bind0 rfl ?_
  cases rulesOk d f w with
  | false =>
    rw [Bool.false_and, Bool.and_false]
    exact Ev.neg (by decide) (Ev.step (f := fun _ => some false) (fun k => by simp [spec_SetupOk.j0]) (Ev.now _))
  | true =>
    refine Ev.pos rfl (Ev.bind (behaveOk_spec ul us uw dl ds dw m n) ?_)
    cases behaveOk ul us uw dl ds dw m n with
    | false =>
      rw [Bool.false_and, Bool.and_false, Bool.and_false]
      exact Ev.neg (by decide) (Ev.step (f := fun _ => some false) (fun k => by simp [spec_SetupOk.j0]) (Ev.now _))
    | true =>
      refine Ev.pos rfl (Ev.bind0 rfl ?_)
      cases decide (1 ≤ (l.length : Int) ∧ (l.length : Int) ≤ 3) with
      | false =>
        rw [Bool.true_and, Bool.true_and, Bool.and_false]
        exact Ev.step (f := fun _ => some false) (fun k => by simp [spec_SetupOk.j0]) (Ev.now _)
      | true =>
        rw [Bool.true_and, Bool.true_and, Bool.and_true]
        exact Ev.step (f := fun k => spec_SetupOk.l0 k 0 d f w l ul us uw dl ds dw m n) (fun k => by simp [spec_SetupOk.j0]) (setup_loop d f w l hl hs ul us uw dl ds dw m n l.length 0 (by omega))
end Go.Proofs.YtblfoelddakelaaDoor.Base
/- Plain facts: texts as lists of bytes; the decimal numeral.
   Conditions: none. -/
namespace Go.Proofs.YtblfoelddakelaaDoor.Texts
open Go.RowKit Go.Proofs.YtblfoelddakelaaDoorW.PrintWords Go.Proofs.YtblfoelddakelaaDoorW.PrintMore Go.Proofs.YtblfoelddakelaaDoorW.PrintLast Go.Proofs.YtblfoelddakelaaDoor.Base

/-- The text of a list of bytes. -/
def S (l : List UInt8) : ByteArray := ⟨l.toArray⟩
theorem S_lit (l : List UInt8) : (⟨l.toArray⟩ : ByteArray) = S l := rfl
theorem S_app (l m : List UInt8) : S l ++ S m = S (l ++ m) := by
  apply ByteArray.ext
  simp [S, ByteArray.data_append]
theorem S_size (l : List UInt8) : (S l).size = l.length := by simp [S, ByteArray.size]
theorem S_data (l : List UInt8) : (S l).data.toList = l := by simp [S]
theorem S_of (b : ByteArray) : S b.data.toList = b := by
  apply ByteArray.ext
  simp [S]

/-- The digits of u, none for 0. -/
def dg0 (u : Nat) : List UInt8 := if u = 0 then [] else Lib.decDigits u
theorem dg0_step (u : Nat) (h : 0 < u) : dg0 u = dg0 (u / 10) ++ [UInt8.ofNat (48 + u % 10)] := by
  unfold dg0
  rw [if_neg (by omega)]
  by_cases h9 : u < 10
  · rw [Lib.decDigits_one h9, if_pos (by omega)]
    simp [Nat.mod_eq_of_lt h9]
  · rw [if_neg (by omega), Lib.decDigits, dif_neg h9]

theorem tdiv_abs (v : Int) : (Int.tdiv v 10).natAbs = v.natAbs / 10 := by
  rw [Int.natAbs_tdiv]; rfl
theorem tmod_abs (v : Int) : (Int.tmod v 10).natAbs = v.natAbs % 10 := by
  rw [Int.natAbs_tmod]; rfl

theorem digit_str (d : Nat) (h : d < 10) : strOfNums [((48 + d : Nat) : Int)] = S [UInt8.ofNat (48 + d)] := by
  have : d = 0 ∨ d = 1 ∨ d = 2 ∨ d = 3 ∨ d = 4 ∨ d = 5 ∨ d = 6 ∨ d = 7 ∨ d = 8 ∨ d = 9 := by omega
  rcases this with rfl | rfl | rfl | rfl | rfl | rfl | rfl | rfl | rfl | rfl <;> rfl
end Go.Proofs.YtblfoelddakelaaDoor.Texts
/- Plain fact: the statements' numeral is the library's.
   Conditions: none. -/
namespace Go.Proofs.YtblfoelddakelaaDoor.Texts
open Go.RowKit Go.Proofs.YtblfoelddakelaaDoorW.PrintWords Go.Proofs.YtblfoelddakelaaDoorW.PrintMore Go.Proofs.YtblfoelddakelaaDoorW.PrintLast Go.Proofs.YtblfoelddakelaaDoor.Base Go.Proofs.YtblfoelddakelaaDoor.U

theorem num_loop : ∀ (n u : Nat), u ≤ n → ∀ (v : Int), v.natAbs = u → -9223372036854775808 ≤ v → v ≤ 9223372036854775807 →
    ∀ (s : List UInt8) (b : Bool), s.length + (dg0 u).length ≤ 1000 →
    Ev (fun k => spec_l01Num.l0 k v (S s) b) (S ((if b = true then [45] else []) ++ dg0 u ++ s)) := by
  intro n
  induction n with
  | zero =>
    intro u hu v hv h0 h1 s b hs
    obtain rfl : u = 0 := by omega
    obtain rfl : v = 0 := by omega
    refine Ev.step (fun k => rfl) ?_
    refine Ev.pos rfl ?_
    cases b
    · refine Ev.neg (by decide) ?_
      simpa [dg0] using Ev.now (S s)
    · refine Ev.pos rfl (Ev.pos ?_ ?_)
      · rw [S_size]; omega
      · show Ev (fun k => some (S [45] ++ S s)) _
        rw [S_app]
        exact Ev.now (S ([45] ++ s))
  | succ n ih =>
    intro u hu v hv h0 h1 s b hs
    by_cases hz : u = 0
    · exact ih u (by omega) v hv h0 h1 s b hs
    have hst := dg0_step u (by omega)
    have hd : (Int.tdiv v 10).natAbs = u / 10 := by rw [tdiv_abs, hv]
    have hm : (Int.tmod v 10).natAbs = u % 10 := by rw [tmod_abs, hv]
    have hu9 : u ≤ 9223372036854775808 := by omega
    have hdb : -9223372036854775808 ≤ Int.tdiv v 10 ∧ Int.tdiv v 10 ≤ 9223372036854775807 := by omega
    have hw : wrap64 (Int.tdiv v 10) = Int.tdiv v 10 := wr_id hdb.1 hdb.2
    have hlen : (dg0 u).length = (dg0 (u / 10)).length + 1 := by rw [hst]; simp
    have go : ∀ (x : Int), x = ((48 + u % 10 : Nat) : Int) → Ev (fun k => (some ([x] : List Int)).bind fun y => (if (strOfNums y).size + (S s).size ≤ 9223372036854775807 then (spec_l01Num.l0 k (wrap64 (Int.tdiv v 10)) ((strOfNums y) ++ (S s)) b) else none)) (S ((if b = true then [45] else []) ++ dg0 u ++ s)) := by
      intro x hx
      subst hx
      refine Ev.bind0 rfl ?_
      refine Ev.pos ?_ ?_
      · rw [digit_str _ (by omega), S_size, S_size]
        simp only [List.length_cons, List.length_nil]; omega
      · rw [digit_str _ (by omega), S_app, hw]
        have := ih (u / 10) (by omega) (Int.tdiv v 10) hd hdb.1 hdb.2 ([UInt8.ofNat (48 + u % 10)] ++ s) b (by simp only [List.length_append, List.length_cons, List.length_nil]; omega)
        rw [hst]
        simpa using this
    refine Ev.step (fun k => rfl) ?_
    refine Ev.neg (by omega) ?_
    by_cases hneg : Int.tmod v 10 < 0
    · refine Ev.pos hneg ?_
      refine go _ ?_
      have e1 : wrap64 (-(Int.tmod v 10)) = ((u % 10 : Nat) : Int) := by rw [wr_id (by omega) (by omega)]; omega
      rw [e1, wr_id (by omega) (by omega)]; omega
    · refine Ev.neg hneg ?_
      refine go _ ?_
      have e1 : Int.tmod v 10 = ((u % 10 : Nat) : Int) := by omega
      rw [e1, wr_id (by omega) (by omega)]; omega

theorem ev_num (a : Int) (h0 : -9223372036854775808 ≤ a) (h1 : a ≤ 9223372036854775807) : Ev (fun k => spec_l01Num.f k a) (S (Lib.itoa a)) := by
  unfold spec_l01Num.f
  by_cases hz : a = 0
  · subst hz
    refine Ev.pos rfl ?_
    have : Lib.itoa 0 = [48] := by simp [Lib.itoa, Lib.decDigits_one]
    rw [this]
    exact Ev.now _
  · refine Ev.neg hz ?_
    have hl := Lib.itoa_length_le a h0 h1
    have e : Lib.itoa a = (if decide (a < 0) = true then [45] else []) ++ dg0 a.natAbs ++ [] := by
      unfold Lib.itoa dg0
      rw [if_neg (by omega : ¬ a.natAbs = 0)]
      by_cases hn : a < 0
      · simp [hn]
      · simp [hn, show a.toNat = a.natAbs by omega]
    rw [e]
    refine num_loop a.natAbs a.natAbs (Nat.le_refl _) a rfl h0 h1 [] (decide (a < 0)) ?_
    have := congrArg List.length e
    simp only [List.length_append, List.length_nil] at this ⊢
    omega
theorem itoa_len (a : Int) (h0 : -9223372036854775808 ≤ a) (h1 : a ≤ 9223372036854775807) : (Lib.itoa a).length ≤ 21 := Lib.itoa_length_le a h0 h1
end Go.Proofs.YtblfoelddakelaaDoor.Texts
/- Plain facts: what the program's number and words give.
   Conditions: none. -/
namespace Go.Proofs.YtblfoelddakelaaDoor.Texts
open Go.RowKit Go.Proofs.YtblfoelddakelaaDoorW.PrintWords Go.Proofs.YtblfoelddakelaaDoorW.PrintMore Go.Proofs.YtblfoelddakelaaDoorW.PrintLast Go.Proofs.YtblfoelddakelaaDoor.Base Go.Proofs.YtblfoelddakelaaDoor.U
theorem wf_le {a : Int} (h : (Lit.int .i64 a).wf = true) : -9223372036854775808 ≤ a ∧ a ≤ 9223372036854775807 := by
  simp [Lit.wf, IntKind.min, IntKind.max, IntKind.signed, IntKind.bits] at h
  omega

theorem number_is (a : Int) (h0 : -9223372036854775808 ≤ a) (h1 : a ≤ 9223372036854775807) : impl_number.f a = some (S (Lib.itoa a)) := by
  unfold impl_number.f
  rw [if_pos ⟨h0, h1⟩]
  rfl
theorem words_is (l : List (List UInt8)) (h : (Lib.join l [32]).length ≤ 1000000 ∧ l.length ≤ 1000) : impl_words.f (l.map S) = some (S (Lib.join l [32])) := by
  unfold impl_words.f
  have e : (l.map S).map (·.data.toList) = l := by rw [List.map_map]; exact (List.map_congr_left fun x _ => S_data x).trans (List.map_id _)
  rw [e, if_pos ⟨by omega, by rw [List.length_map]; omega⟩]
  rfl

theorem words4 (a b c d : List UInt8) (h : a.length + b.length + c.length + d.length ≤ 10000) : impl_words.f [S a, S b, S c, S d] = some (S (a ++ [32] ++ b ++ [32] ++ c ++ [32] ++ d)) := by
  have := words_is [a, b, c, d] ⟨by simp [Lib.join, List.intercalate]; omega, by simp⟩
  rw [show [a, b, c, d].map S = [S a, S b, S c, S d] from rfl] at this
  rw [this]
  simp [Lib.join, List.intercalate]

end Go.Proofs.YtblfoelddakelaaDoor.Texts
/- SideText of the program and of the reference: one text.
   Conditions: none. -/
namespace Go.Proofs.YtblfoelddakelaaDoor.Texts
set_option linter.unusedSimpArgs false
open Go.RowKit Go.Proofs.YtblfoelddakelaaDoorW.PrintWords Go.Proofs.YtblfoelddakelaaDoorW.PrintMore Go.Proofs.YtblfoelddakelaaDoorW.PrintLast Go.Proofs.YtblfoelddakelaaDoor.Base Go.Proofs.YtblfoelddakelaaDoor.U

def polTx (p : S67) : List UInt8 := [32] ++ Lib.itoa p.f0 ++ [58] ++ Lib.itoa p.f1 ++ [58] ++ Lib.itoa p.f2
def sideTx (l : List S67) (sel win : Int) : List UInt8 :=
  (List.range' 0 l.length).foldl (fun s (i : Nat) => s ++ polTx (rd_T67 l i)) (Lib.itoa sel ++ [32] ++ Lib.itoa win)

theorem sideText_spec (l : List S67) (sel win : Int) (h : sideOk l sel win = true) : Ev (fun k => spec_SideText.f k l sel win) (S (sideTx l sel win)) := by
  obtain ⟨hn, hs, hw, hp⟩ := sideOk_facts h
  unfold spec_SideText.f
  have e0 := sideOk_spec l sel win
  rw [h] at e0
  have l1 := itoa_len sel (by omega) (by omega)
  have l2 := itoa_len win (by omega) (by omega)
  refine Ev.bind e0 (Ev.pos rfl (Ev.bind (ev_num sel (by omega) (by omega)) (Ev.pos ?_ (Ev.bind (ev_num win (by omega) (by omega)) (Ev.pos ?_ ?_)))))
  · rw [S_size]; omega
  · (simp only [S_lit, S_app, S_size, List.length_append, List.length_cons, List.length_nil]; omega)
  · simp only [S_lit, S_app]
    refine ev_fold (n := l.length) (F := fun k s i => spec_SideText.l0 k (S s) i l sel win) (out := S) (st := fun s (i : Nat) => s ++ polTx (rd_T67 l i)) (Inv := fun s i => s.length ≤ 100 + 100 * i) ?_ ?_ l.length 0 _ (by omega) ?_
    · intro s _
      exact Ev.step (fun k => rfl) (Ev.neg (by omega) (Ev.now _))
    · intro s i hi hI
      obtain ⟨p0, p1, p2⟩ := hp i hi
      have n0 := itoa_len _ (show -9223372036854775808 ≤ (rd_T67 l i).f0 by omega) (by omega)
      have n1 := itoa_len _ (show -9223372036854775808 ≤ (rd_T67 l i).f1 by omega) (by omega)
      have n2 := itoa_len _ (show -9223372036854775808 ≤ (rd_T67 l i).f2 by omega) (by omega)
      have hI' : s.length ≤ 500 := by have : s.length ≤ 100 + 100 * i := hI; omega
      refine ⟨?_, fun r hr => ?_⟩
      · show (s ++ polTx _).length ≤ _
        simp only [polTx, List.length_append, List.length_cons, List.length_nil]
        have : s.length ≤ 100 + 100 * i := hI
        omega
      · refine Ev.step (fun k => rfl) ?_
        refine Ev.pos (by omega) (Ev.pos (by omega) (Ev.pos ?_ (Ev.bind (ev_num _ (by omega) (by omega)) (Ev.pos ?_ (Ev.pos ?_ (Ev.bind (ev_num _ (by omega) (by omega)) (Ev.pos ?_ (Ev.pos ?_ (Ev.bind (ev_num _ (by omega) (by omega)) (Ev.pos ?_ ?_))))))))))
        · (simp only [S_lit, S_app, S_size, List.length_append, List.length_cons, List.length_nil]; omega)
        · (simp only [S_lit, S_app, S_size, List.length_append, List.length_cons, List.length_nil]; omega)
        · (simp only [S_lit, S_app, S_size, List.length_append, List.length_cons, List.length_nil]; omega)
        · (simp only [S_lit, S_app, S_size, List.length_append, List.length_cons, List.length_nil]; omega)
        · (simp only [S_lit, S_app, S_size, List.length_append, List.length_cons, List.length_nil]; omega)
        · (simp only [S_lit, S_app, S_size, List.length_append, List.length_cons, List.length_nil]; omega)
        · simp only [S_lit, S_app]
          rw [wr_succ hi (by omega)]
          have e : s ++ [32] ++ Lib.itoa (rd_T67 l i).f0 ++ [58] ++ Lib.itoa (rd_T67 l i).f1 ++ [58] ++ Lib.itoa (rd_T67 l i).f2 = s ++ polTx (rd_T67 l i) := by simp [polTx]
          rw [e]
          exact hr
    · simp only [List.length_append, List.length_cons, List.length_nil]; omega

theorem words2 (a b : List UInt8) (h : a.length + b.length ≤ 10000) : impl_words.f [S a, S b] = some (S (a ++ [32] ++ b)) := by
  have := words_is [a, b] ⟨by simp [Lib.join, List.intercalate]; omega, by simp⟩
  rw [show [a, b].map S = [S a, S b] from rfl] at this
  rw [this]
  simp [Lib.join, List.intercalate]

theorem sideText_impl (l : List S67) (sel win : Int) (h : sideOk l sel win = true) : Ev (fun k => impl_SideText.f k l sel win) (S (sideTx l sel win)) := by
  obtain ⟨hn, hs, hw, hp⟩ := sideOk_facts h
  unfold impl_SideText.f
  have e0 := sideOk_impl l (by omega) sel win
  rw [h] at e0
  have l1 := itoa_len sel (by omega) (by omega)
  have l2 := itoa_len win (by omega) (by omega)
  refine Ev.bind e0 (Ev.pos rfl (Ev.bind0 (number_is sel (by omega) (by omega)) (Ev.bind0 (number_is win (by omega) (by omega)) (Ev.bind0 (words2 _ _ (by omega)) ?_))))
  refine ev_fold (n := l.length) (F := fun k s i => impl_SideText.l0 k (S s) l (l.length : Int) i) (out := S) (st := fun s (i : Nat) => s ++ polTx (rd_T67 l i)) (Inv := fun s i => s.length ≤ 100 + 100 * i) ?_ ?_ l.length 0 _ (by omega) ?_
  · intro s _
    exact Ev.step (fun k => rfl) (Ev.neg (by omega) (Ev.now _))
  · intro s i hi hI
    obtain ⟨p0, p1, p2⟩ := hp i hi
    have n0 := itoa_len _ (show -9223372036854775808 ≤ (rd_T67 l i).f0 by omega) (by omega)
    have n1 := itoa_len _ (show -9223372036854775808 ≤ (rd_T67 l i).f1 by omega) (by omega)
    have n2 := itoa_len _ (show -9223372036854775808 ≤ (rd_T67 l i).f2 by omega) (by omega)
    have hI' : s.length ≤ 500 := by have : s.length ≤ 100 + 100 * i := hI; omega
    refine ⟨?_, fun r hr => ?_⟩
    · show (s ++ polTx _).length ≤ _
      simp only [polTx, List.length_append, List.length_cons, List.length_nil]
      have : s.length ≤ 100 + 100 * i := hI
      omega
    · refine Ev.step (fun k => rfl) ?_
      refine Ev.pos (by omega) (Ev.pos (by omega) (Ev.pos (by omega) (Ev.bind0 (number_is _ (by omega) (by omega)) (Ev.pos ?_ (Ev.pos ?_ (Ev.bind0 (number_is _ (by omega) (by omega)) (Ev.pos ?_ (Ev.pos ?_ (Ev.bind0 (number_is _ (by omega) (by omega)) (Ev.pos ?_ (Ev.pos ?_ ?_)))))))))))
      · (simp only [S_lit, S_app, S_size, List.length_append, List.length_cons, List.length_nil]; omega)
      · (simp only [S_lit, S_app, S_size, List.length_append, List.length_cons, List.length_nil]; omega)
      · (simp only [S_lit, S_app, S_size, List.length_append, List.length_cons, List.length_nil]; omega)
      · (simp only [S_lit, S_app, S_size, List.length_append, List.length_cons, List.length_nil]; omega)
      · (simp only [S_lit, S_app, S_size, List.length_append, List.length_cons, List.length_nil]; omega)
      · (simp only [S_lit, S_app, S_size, List.length_append, List.length_cons, List.length_nil]; omega)
      · simp only [S_lit, S_app]
        rw [wr_succ hi (by omega)]
        have e : s ++ ([32] ++ Lib.itoa (rd_T67 l i).f0 ++ [58] ++ Lib.itoa (rd_T67 l i).f1 ++ [58] ++ Lib.itoa (rd_T67 l i).f2) = s ++ polTx (rd_T67 l i) := rfl
        rw [e]
        exact hr
  · simp only [List.length_append, List.length_cons, List.length_nil]; omega

/-- For every Side both give one text. -/
theorem sideText_ends (l : List S67) (hl : l.length ≤ 1048576) (sel win : Int) : ∃ X, Ev (fun k => spec_SideText.f k l sel win) X ∧ Ev (fun k => impl_SideText.f k l sel win) X := by
  cases h : sideOk l sel win with
  | true => exact ⟨_, sideText_spec l sel win h, sideText_impl l sel win h⟩
  | false =>
    have e0 := sideOk_spec l sel win
    have e1 := sideOk_impl l hl sel win
    rw [h] at e0 e1
    unfold spec_SideText.f impl_SideText.f
    exact ⟨_, Ev.bind e0 (Ev.neg (by decide) (Ev.now _)), Ev.bind e1 (Ev.neg (by decide) (Ev.now _))⟩
end Go.Proofs.YtblfoelddakelaaDoor.Texts
/- MilliText of a whole number from 0 on, of the program and of the reference: one text.
   Conditions: none. -/
namespace Go.Proofs.YtblfoelddakelaaDoor.Texts
set_option linter.unusedSimpArgs false
open Go.RowKit Go.Proofs.YtblfoelddakelaaDoorW.PrintWords Go.Proofs.YtblfoelddakelaaDoorW.PrintMore Go.Proofs.YtblfoelddakelaaDoorW.PrintLast Go.Proofs.YtblfoelddakelaaDoor.Base Go.Proofs.YtblfoelddakelaaDoor.U

/-- The three digits of k. -/
def fr (k : Nat) : List UInt8 := [UInt8.ofNat (48 + k / 100), UInt8.ofNat (48 + k / 10 % 10), UInt8.ofNat (48 + k % 10)]
def milliTx (n : Nat) : List UInt8 := Lib.itoa ((n / 1000 : Nat) : Int) ++ (if n % 1000 = 0 then [] else [46] ++ Lib.trimRightB (fr (n % 1000)) 48)

theorem itoa_nat (u : Nat) : Lib.itoa (u : Int) = Lib.decDigits u := Lib.itoa_nonneg u
theorem dec4 (k : Nat) (h : k < 1000) : Lib.decDigits (1000 + k) = 49 :: fr k := by
  rw [Lib.decDigits, dif_neg (by omega), Lib.decDigits, dif_neg (by omega), Lib.decDigits, dif_neg (by omega), Lib.decDigits_one (by omega)]
  have e1 : (1000 + k) / 10 / 10 / 10 = 1 := by omega
  have e2 : (1000 + k) / 10 / 10 % 10 = k / 100 := by omega
  have e3 : (1000 + k) / 10 % 10 = k / 10 % 10 := by omega
  have e4 : (1000 + k) % 10 = k % 10 := by omega
  rw [e1, e2, e3, e4]
  clear e1 e2 e3 e4
  rfl
theorem digit_zero (d : Nat) (h : d < 10) : (UInt8.ofNat (48 + d) == 48) = decide (d = 0) := by
  have : d = 0 ∨ d = 1 ∨ d = 2 ∨ d = 3 ∨ d = 4 ∨ d = 5 ∨ d = 6 ∨ d = 7 ∨ d = 8 ∨ d = 9 := by omega
  rcases this with rfl | rfl | rfl | rfl | rfl | rfl | rfl | rfl | rfl | rfl <;> rfl
theorem digits_str (l : List Nat) (_ : ∀ d ∈ l, d < 10) : strOfNums (l.map fun d => ((48 + d : Nat) : Int)) = S (l.map fun d => UInt8.ofNat (48 + d)) := by
  unfold strOfNums S
  rw [List.map_map]
  congr 2
theorem trim3 (a b c : Nat) (ha : a < 10) (hb : b < 10) (hc : c < 10) (h : a ≠ 0 ∨ b ≠ 0 ∨ c ≠ 0) : Lib.trimRightB [UInt8.ofNat (48 + a), UInt8.ofNat (48 + b), UInt8.ofNat (48 + c)] 48 = if c ≠ 0 then [UInt8.ofNat (48 + a), UInt8.ofNat (48 + b), UInt8.ofNat (48 + c)] else if b ≠ 0 then [UInt8.ofNat (48 + a), UInt8.ofNat (48 + b)] else [UInt8.ofNat (48 + a)] := by
  have za := digit_zero a ha
  have zb := digit_zero b hb
  have zc := digit_zero c hc
  generalize UInt8.ofNat (48 + a) = A at *
  generalize UInt8.ofNat (48 + b) = B at *
  generalize UInt8.ofNat (48 + c) = C at *
  unfold Lib.trimRightB
  simp only [List.reverse_cons, List.reverse_nil, List.nil_append, List.cons_append, List.dropWhile_cons, za, zb, zc, decide_eq_true_eq]
  by_cases h1 : c = 0
  · by_cases h2 : b = 0
    · have h3 : a ≠ 0 := by omega
      simp [h1, h2, h3]
    · simp [h1, h2]
  · simp [h1]
theorem trim_fr (k : Nat) (h : k < 1000) (h0 : k ≠ 0) : Lib.trimRightB (fr k) 48 = if k % 10 ≠ 0 then fr k else if k / 10 % 10 ≠ 0 then (fr k).take 2 else (fr k).take 1 :=
  trim3 (k / 100) (k / 10 % 10) (k % 10) (by omega) (by omega) (by omega) (by omega)
theorem fr_len (k : Nat) : (fr k).length = 3 := rfl
theorem trim_len (k : Nat) (h : k < 1000) (h0 : k ≠ 0) : (Lib.trimRightB (fr k) 48).length ≤ 3 := by
  rw [trim_fr k h h0]
  by_cases h1 : k % 10 ≠ 0
  · rw [if_pos h1]; simp [fr]
  · rw [if_neg h1]
    by_cases h2 : k / 10 % 10 ≠ 0
    · rw [if_pos h2]; simp [fr]
    · rw [if_neg h2]; simp [fr]
theorem milli_len (n : Nat) (h : n ≤ 1000000000) : (milliTx n).length ≤ 30 := by
  unfold milliTx
  have := itoa_len ((n / 1000 : Nat) : Int) (by omega) (by omega)
  by_cases h0 : n % 1000 = 0
  · rw [if_pos h0, List.append_nil]; omega
  · rw [if_neg h0]
    have := trim_len (n % 1000) (by omega) h0
    simp only [List.length_append, List.length_cons, List.length_nil]
    omega

theorem value_impl (n : Nat) (h : n ≤ 1000000000) : impl_isValue.f (n : Int) = some true := by
  unfold impl_isValue.f
  rw [in_impl, Option.bind_some, decide_eq_true (by omega)]
theorem value_spec (n : Nat) (h : n ≤ 1000000000) : spec_l01Value.f (n : Int) = some true := by
  unfold spec_l01Value.f
  rw [in_spec, Option.bind_some, decide_eq_true (by omega)]

theorem extract_tail (a : UInt8) (l : List UInt8) : (S (a :: l)).extract 1 (S (a :: l)).size = S l := by
  apply ByteArray.ext
  rw [S_size]
  simp [S, ByteArray.data_extract]

theorem milli_impl (n : Nat) (h : n ≤ 1000000000) : Ev (fun k => impl_MilliText.f k (n : Int)) (S (milliTx n)) := by
  unfold impl_MilliText.f
  refine Ev.bind0 (value_impl n h) (Ev.pos rfl (Ev.neg (by omega) (Ev.step (fun k => impl_MilliText.j0.eq_2 ..) ?_)))
  have e1 : wrap64 (Int.tdiv (n : Int) 1000) = ((n / 1000 : Nat) : Int) := by
    rw [show Int.tdiv (n : Int) 1000 = ((n / 1000 : Nat) : Int) from rfl]; exact wr_id (by omega) (by omega)
  have e2 : Int.tmod (n : Int) 1000 = ((n % 1000 : Nat) : Int) := rfl
  have l1 := itoa_len ((n / 1000 : Nat) : Int) (by omega) (by omega)
  rw [e1, e2]
  clear e1 e2
  have hi : ∀ a : Int, -9223372036854775808 ≤ a → a ≤ 9223372036854775807 → strconv_Itoa.f a = some (S (Lib.itoa a)) := by
    intro a h0 h1; unfold strconv_Itoa.f; rw [if_pos ⟨h0, h1⟩]; rfl
  refine Ev.bind0 (hi _ (by omega) (by omega)) (Ev.pos ?_ ?_)
  · simp only [S_lit, S_app, S_size, List.length_append, List.length_cons, List.length_nil]; omega
  by_cases h0 : n % 1000 = 0
  · refine Ev.pos (by omega) ?_
    have : (⟨#[]⟩ : ByteArray) ++ S (Lib.itoa ((n / 1000 : Nat) : Int)) = S (milliTx n) := by
      rw [S_lit, S_app]; unfold milliTx; rw [if_pos h0]; simp
    rw [this]
    exact Ev.now _
  · refine Ev.neg (by omega) (Ev.pos ?_ ?_)
    · simp only [S_lit, S_app, S_size, List.length_append, List.length_cons, List.length_nil]; omega
    have e3 : wrap64 (1000 + ((n % 1000 : Nat) : Int)) = ((1000 + n % 1000 : Nat) : Int) := by rw [wr_id (by omega) (by omega)]; omega
    rw [e3]
    refine Ev.bind0 (hi _ (by omega) (by omega)) ?_
    rw [itoa_nat (1000 + n % 1000), dec4 _ (by omega)]
    refine Ev.pos ?_ ?_
    · rw [S_size]; simp only [List.length_cons]; omega
    rw [extract_tail]
    refine Ev.bind0 (a := S (Lib.trimRightB (fr (n % 1000)) 48)) ?_ ?_
    · unfold strings_TrimRight.f
      rw [if_pos ⟨rfl, by rw [S_size, fr_len]; omega⟩, S_data]
      rfl
    have l2 := trim_len (n % 1000) (by omega) h0
    refine Ev.pos ?_ ?_
    · simp only [S_lit, S_app, S_size, List.length_append, List.length_cons, List.length_nil]; omega
    · have : (((⟨#[]⟩ : ByteArray) ++ S (Lib.itoa ((n / 1000 : Nat) : Int))) ++ (⟨#[46]⟩ : ByteArray)) ++ S (Lib.trimRightB (fr (n % 1000)) 48) = S (milliTx n) := by
        simp only [S_lit, S_app]; unfold milliTx; rw [if_neg h0]; simp
      rw [this]
      exact Ev.now _

theorem td_nat (a b : Nat) : Int.tdiv (a : Int) (b : Int) = ((a / b : Nat) : Int) := rfl
theorem dg_wr (x : Nat) (h : x < 10) : (wrap64 (48 + wrap64 (x : Int))) % 256 = ((48 + x : Nat) : Int) := by
  have t2 : wrap64 (x : Int) = (x : Int) := wr_id (by omega) (by omega)
  have t3 : wrap64 (48 + (x : Int)) = 48 + (x : Int) := wr_id (by omega) (by omega)
  rw [t2, t3]; clear t2 t3; omega
theorem md1 (k : Nat) (h : k < 1000) : (wrap64 (48 + wrap64 (Int.tdiv (k : Int) 100))) % 256 = ((48 + k / 100 : Nat) : Int) := by
  have t1 : Int.tdiv (k : Int) 100 = ((k / 100 : Nat) : Int) := td_nat k 100
  rw [t1]; exact dg_wr _ (by omega)
theorem md2 (k : Nat) (h : k < 100) : (wrap64 (48 + wrap64 (Int.tdiv (k : Int) 10))) % 256 = ((48 + k / 10 : Nat) : Int) := by
  have t1 : Int.tdiv (k : Int) 10 = ((k / 10 : Nat) : Int) := td_nat k 10
  rw [t1]; exact dg_wr _ (by omega)
theorem md3 (k : Nat) (h : k < 10) : (wrap64 (48 + (k : Int))) % 256 = ((48 + k : Nat) : Int) := by
  have t3 : wrap64 (48 + (k : Int)) = 48 + (k : Int) := wr_id (by omega) (by omega)
  rw [t3]; clear t3; omega
theorem rd3 (A B C : Int) : rd [A, B, C] 2 = C ∧ rd [A, B, C] 1 = B ∧ rd [A, B, C] 0 = A := ⟨rfl, rfl, rfl⟩
theorem tk3 (A B C : Int) : [A, B, C].take (3 : Int).toNat = [A, B, C] ∧ [A, B, C].take (2 : Int).toNat = [A, B] ∧ [A, B, C].take (1 : Int).toNat = [A] := ⟨rfl, rfl, rfl⟩
theorem w3 : wrap64 (3 - 1) = 2 := by unfold wrap64; omega
theorem w2 : wrap64 (2 - 1) = 1 := by unfold wrap64; omega
theorem w1 : wrap64 (1 - 1) = 0 := by unfold wrap64; omega
theorem ml_step3 (k : Nat) (x : ByteArray) (A B C : Int) : spec_MilliText.l0 (k + 1) x [A, B, C] 3 = if C = 48 then spec_MilliText.l0 k x [A, B, C] 2 else if x.size + 1 ≤ 9223372036854775807 then (if (x ++ (⟨#[46]⟩ : ByteArray)).size + (strOfNums [A, B, C]).size ≤ 9223372036854775807 then some ((x ++ (⟨#[46]⟩ : ByteArray)) ++ strOfNums [A, B, C]) else none) else none := by
  rw [spec_MilliText.l0]
  simp only [w3, (rd3 A B C).1, (tk3 A B C).1, List.length_cons, List.length_nil, Option.bind_some]
  rfl
theorem ml_step2 (k : Nat) (x : ByteArray) (A B C : Int) : spec_MilliText.l0 (k + 1) x [A, B, C] 2 = if B = 48 then spec_MilliText.l0 k x [A, B, C] 1 else if x.size + 1 ≤ 9223372036854775807 then (if (x ++ (⟨#[46]⟩ : ByteArray)).size + (strOfNums [A, B]).size ≤ 9223372036854775807 then some ((x ++ (⟨#[46]⟩ : ByteArray)) ++ strOfNums [A, B]) else none) else none := by
  rw [spec_MilliText.l0]
  simp only [w2, (rd3 A B C).2.1, (tk3 A B C).2.1, List.length_cons, List.length_nil, Option.bind_some]
  rfl
theorem ml_step1 (k : Nat) (x : ByteArray) (A B C : Int) : spec_MilliText.l0 (k + 1) x [A, B, C] 1 = if A = 48 then spec_MilliText.l0 k x [A, B, C] 0 else if x.size + 1 ≤ 9223372036854775807 then (if (x ++ (⟨#[46]⟩ : ByteArray)).size + (strOfNums [A]).size ≤ 9223372036854775807 then some ((x ++ (⟨#[46]⟩ : ByteArray)) ++ strOfNums [A]) else none) else none := by
  rw [spec_MilliText.l0]
  simp only [w1, (rd3 A B C).2.2, (tk3 A B C).2.2, List.length_cons, List.length_nil, Option.bind_some]
  rfl
theorem fin_str (x l : List UInt8) (L : List Int) (hL : strOfNums L = S l) (hx : x.length ≤ 1000) (hl : l.length ≤ 1000) : (if (S x).size + 1 ≤ 9223372036854775807 then (if (S x ++ (⟨#[46]⟩ : ByteArray)).size + (strOfNums L).size ≤ 9223372036854775807 then some ((S x ++ (⟨#[46]⟩ : ByteArray)) ++ strOfNums L) else none) else none) = some (S (x ++ [46] ++ l)) := by
  rw [hL, S_lit, S_app, S_app, S_size, S_size, S_size, if_pos (by omega), if_pos (by simp only [List.length_append, List.length_cons, List.length_nil]; omega)]
theorem milli_loop (x : List UInt8) (hx : x.length ≤ 1000) (a b c : Nat) (ha : a < 10) (hb : b < 10) (hc : c < 10) (h0 : a ≠ 0 ∨ b ≠ 0 ∨ c ≠ 0) (A B C : Int) (eA : A = ((48 + a : Nat) : Int)) (eB : B = ((48 + b : Nat) : Int)) (eC : C = ((48 + c : Nat) : Int)) :
    Ev (fun k => spec_MilliText.l0 k (S x) [A, B, C] 3) (S (x ++ [46] ++ (if c ≠ 0 then [UInt8.ofNat (48 + a), UInt8.ofNat (48 + b), UInt8.ofNat (48 + c)] else if b ≠ 0 then [UInt8.ofNat (48 + a), UInt8.ofNat (48 + b)] else [UInt8.ofNat (48 + a)]))) := by
  have s3 : strOfNums [A, B, C] = S [UInt8.ofNat (48 + a), UInt8.ofNat (48 + b), UInt8.ofNat (48 + c)] := by subst eA eB eC; exact digits_str [a, b, c] (by simp; omega)
  have s2 : strOfNums [A, B] = S [UInt8.ofNat (48 + a), UInt8.ofNat (48 + b)] := by subst eA eB; exact digits_str [a, b] (by simp; omega)
  have s1 : strOfNums [A] = S [UInt8.ofNat (48 + a)] := by subst eA; exact digits_str [a] (by simp; omega)
  by_cases h1 : c = 0
  · rw [if_neg (by omega)]
    refine Ev.step (fun k => (ml_step3 k (S x) A B C).trans (if_pos (by omega))) ?_
    by_cases h2 : b = 0
    · rw [if_neg (by omega)]
      refine Ev.step (fun k => (ml_step2 k (S x) A B C).trans (if_pos (by omega))) ?_
      exact Ev.step (f := fun _ => some _) (fun k => (ml_step1 k (S x) A B C).trans ((if_neg (by omega)).trans (fin_str x _ _ s1 hx (by simp)))) (Ev.now _)
    · rw [if_pos h2]
      exact Ev.step (f := fun _ => some _) (fun k => (ml_step2 k (S x) A B C).trans ((if_neg (by omega)).trans (fin_str x _ _ s2 hx (by simp)))) (Ev.now _)
  · rw [if_pos h1]
    exact Ev.step (f := fun _ => some _) (fun k => (ml_step3 k (S x) A B C).trans ((if_neg (by omega)).trans (fin_str x _ _ s3 hx (by simp)))) (Ev.now _)

theorem mq3 (n : Nat) : n % 10 = n % 1000 % 10 := (Nat.mod_mod_of_dvd n (show 10 ∣ 1000 from ⟨100, rfl⟩)).symm
theorem mq2 (n : Nat) : n % 100 / 10 = n % 1000 / 10 % 10 := by
  have a : n % (10 * 10) / 10 = n / 10 % 10 := Nat.mod_mul_right_div_self n 10 10
  have b : n % (10 * 100) / 10 = n / 10 % 100 := Nat.mod_mul_right_div_self n 10 100
  have c : n / 10 % 100 % 10 = n / 10 % 10 := Nat.mod_mod_of_dvd (n / 10) (show 10 ∣ 100 from ⟨10, rfl⟩)
  rw [show (10 * 100 : Nat) = 1000 from rfl] at b
  rw [show (10 * 10 : Nat) = 100 from rfl] at a
  rw [a, b, c]
theorem milli_spec (n : Nat) (h : n ≤ 1000000000) : Ev (fun k => spec_MilliText.f k (n : Int)) (S (milliTx n)) := by
  unfold spec_MilliText.f
  refine Ev.bind0 (value_spec n h) (Ev.pos rfl (Ev.neg (by omega) (Ev.step (fun k => spec_MilliText.j0.eq_2 ..) ?_)))
  have e1 : wrap64 (Int.tdiv (n : Int) 1000) = ((n / 1000 : Nat) : Int) := by
    rw [show Int.tdiv (n : Int) 1000 = ((n / 1000 : Nat) : Int) from rfl]; exact wr_id (by omega) (by omega)
  have e2 : Int.tmod (n : Int) 1000 = ((n % 1000 : Nat) : Int) := rfl
  have e3 : Int.tmod (n : Int) 100 = ((n % 100 : Nat) : Int) := rfl
  have e4 : Int.tmod (n : Int) 10 = ((n % 10 : Nat) : Int) := rfl
  have l1 := itoa_len ((n / 1000 : Nat) : Int) (by omega) (by omega)
  rw [e1, e2, e3, e4]
  clear e1 e2 e3 e4
  refine Ev.bind (ev_num _ (by omega) (by omega)) (Ev.pos ?_ ?_)
  · simp only [S_lit, S_app, S_size, List.length_append, List.length_cons, List.length_nil]; omega
  have e0 : (⟨#[]⟩ : ByteArray) ++ S (Lib.itoa ((n / 1000 : Nat) : Int)) = S (Lib.itoa ((n / 1000 : Nat) : Int)) := by rw [S_lit, S_app]; rfl
  rw [e0]
  by_cases h0 : n % 1000 = 0
  · refine Ev.pos (by omega) ?_
    unfold milliTx
    rw [if_pos h0, List.append_nil]
    exact Ev.now _
  · refine Ev.neg (by omega) ?_
    have d1 := md1 (n % 1000) (by omega)
    have d2 := md2 (n % 100) (by omega)
    have d3 := md3 (n % 10) (by omega)
    have q2 := mq2 n
    have q3 := mq3 n
    rw [d1, d2, d3, q2, q3]
    clear d1 d2 d3 q2 q3
    have key := milli_loop (Lib.itoa ((n / 1000 : Nat) : Int)) (by omega) (n % 1000 / 100) (n % 1000 / 10 % 10) (n % 1000 % 10) (by omega) (by omega) (by omega) (by omega) _ _ _ rfl rfl rfl
    have e5 : milliTx n = Lib.itoa ((n / 1000 : Nat) : Int) ++ [46] ++ (if n % 1000 % 10 ≠ 0 then [UInt8.ofNat (48 + n % 1000 / 100), UInt8.ofNat (48 + n % 1000 / 10 % 10), UInt8.ofNat (48 + n % 1000 % 10)] else if n % 1000 / 10 % 10 ≠ 0 then [UInt8.ofNat (48 + n % 1000 / 100), UInt8.ofNat (48 + n % 1000 / 10 % 10)] else [UInt8.ofNat (48 + n % 1000 / 100)]) := by
      unfold milliTx
      rw [if_neg h0, List.append_assoc]
      congr 2
      exact trim3 _ _ _ (by omega) (by omega) (by omega) (by omega)
    rw [e5]
    exact key
end Go.Proofs.YtblfoelddakelaaDoor.Texts
/- GoalLine of the program and of the reference: one text, where the goal is well.
   Conditions: none. -/
namespace Go.Proofs.YtblfoelddakelaaDoor.Texts
set_option linter.unusedSimpArgs false
open Go.RowKit Go.Proofs.YtblfoelddakelaaDoorW.PrintWords Go.Proofs.YtblfoelddakelaaDoorW.PrintMore Go.Proofs.YtblfoelddakelaaDoorW.PrintLast Go.Proofs.YtblfoelddakelaaDoor.Base Go.Proofs.YtblfoelddakelaaDoor.U

theorem words3 (a b c : List UInt8) (h : a.length + b.length + c.length ≤ 10000) : impl_words.f [S a, S b, S c] = some (S (a ++ [32] ++ b ++ [32] ++ c)) := by
  have := words_is [a, b, c] ⟨by simp [Lib.join, List.intercalate]; omega, by simp⟩
  rw [show [a, b, c].map S = [S a, S b, S c] from rfl] at this
  rw [this]
  simp [Lib.join, List.intercalate]

theorem goalOk_facts {g : S75} (h : goalOk g = true) : 1 ≤ g.f0.size ∧ g.f0.size ≤ 12 ∧ 1 ≤ g.f1 ∧ g.f1 ≤ 1000000 ∧ 0 ≤ g.f2 ∧ g.f2 ≤ 1000 := by
  unfold goalOk nameOk at h
  simp only [Bool.and_eq_true, decide_eq_true_eq] at h
  omega

def goalTx (g : S75) : List UInt8 := g.f0.data.toList ++ [32] ++ milliTx g.f1.toNat ++ [32] ++ Lib.itoa g.f2
theorem goalTx_len (g : S75) (h : goalOk g = true) : (goalTx g).length ≤ 70 := by
  obtain ⟨h0', h0, h1, h2, h3, h4⟩ := goalOk_facts h
  have lm := milli_len g.f1.toNat (by omega)
  have ln := itoa_len g.f2 (by omega) (by omega)
  have hn : g.f0.data.toList.length ≤ 12 := by rw [Array.length_toList]; exact h0
  unfold goalTx
  simp only [List.length_append, List.length_cons, List.length_nil]
  omega

theorem goalLine_spec (g : S75) (h : goalOk g = true) : Ev (fun k => spec_GoalLine.f k g.f0 g.f1 g.f2) (S (goalTx g)) := by
  obtain ⟨h0', h0, h1, h2, h3, h4⟩ := goalOk_facts h
  have e0 := goalOk_spec g (by omega)
  rw [h] at e0
  have em := milli_spec g.f1.toNat (by omega)
  rw [show ((g.f1.toNat : Nat) : Int) = g.f1 by omega] at em
  have lm := milli_len g.f1.toNat (by omega)
  have ln := itoa_len g.f2 (by omega) (by omega)
  have hn : g.f0.data.toList.length ≤ 12 := by rw [Array.length_toList]; exact h0
  unfold goalTx
  have ht := (S_of g.f0).symm
  generalize g.f0.data.toList = t at ht hn
  unfold spec_GoalLine.f
  refine Ev.bind e0 (Ev.pos rfl (Ev.pos ?_ (Ev.bind em (Ev.pos ?_ (Ev.pos ?_ (Ev.bind (ev_num _ (by omega) (by omega)) (Ev.pos ?_ ?_)))))))
  · rw [ht]; simp only [S_lit, S_app, S_size, List.length_append, List.length_cons, List.length_nil]; omega
  · rw [ht]; simp only [S_lit, S_app, S_size, List.length_append, List.length_cons, List.length_nil]; omega
  · rw [ht]; simp only [S_lit, S_app, S_size, List.length_append, List.length_cons, List.length_nil]; omega
  · rw [ht]; simp only [S_lit, S_app, S_size, List.length_append, List.length_cons, List.length_nil]; omega
  · rw [ht]; simp only [S_lit, S_app]; exact Ev.now _

theorem goalLine_impl (g : S75) (h : goalOk g = true) : Ev (fun k => impl_GoalLine.f k g.f0 g.f1 g.f2) (S (goalTx g)) := by
  obtain ⟨h0', h0, h1, h2, h3, h4⟩ := goalOk_facts h
  have e0 := goalOk_impl g (by omega)
  rw [h] at e0
  have em := milli_impl g.f1.toNat (by omega)
  rw [show ((g.f1.toNat : Nat) : Int) = g.f1 by omega] at em
  have lm := milli_len g.f1.toNat (by omega)
  have ln := itoa_len g.f2 (by omega) (by omega)
  have hn : g.f0.data.toList.length ≤ 12 := by rw [Array.length_toList]; exact h0
  unfold goalTx
  have ht := (S_of g.f0).symm
  generalize g.f0.data.toList = t at ht hn
  unfold impl_GoalLine.f
  refine Ev.bind e0 (Ev.pos rfl (Ev.bind em (Ev.bind0 (number_is _ (by omega) (by omega)) ?_)))
  rw [ht]
  exact Ev.bind0 (words3 _ _ _ (by omega)) (Ev.now _)
end Go.Proofs.YtblfoelddakelaaDoor.Texts
/- SetupText of the program and of the reference: one text and one answer.
   Conditions: none. -/
namespace Go.Proofs.YtblfoelddakelaaDoor.Texts
set_option linter.unusedSimpArgs false
open Go.RowKit Go.Proofs.YtblfoelddakelaaDoorW.PrintWords Go.Proofs.YtblfoelddakelaaDoorW.PrintMore Go.Proofs.YtblfoelddakelaaDoorW.PrintLast Go.Proofs.YtblfoelddakelaaDoor.Base Go.Proofs.YtblfoelddakelaaDoor.U

theorem setupOk_facts {d f w : Int} {l : List S75} {ul : List S67} {us uw : Int} {dl : List S67} {ds dw m n : Int} (h : setupOk d f w l ul us uw dl ds dw m n = true) :
    (∀ i, i < l.length → goalOk (rd_T75 l i) = true) ∧ l.length ≤ 3 ∧ (0 ≤ d ∧ d ≤ 1000) ∧ (0 ≤ f ∧ f ≤ 1000) ∧ (0 ≤ w ∧ w ≤ 1000) ∧ sideOk ul us uw = true ∧ sideOk dl ds dw = true ∧ 0 ≤ m ∧ m ≤ n ∧ n ≤ 1000 := by
  unfold setupOk rulesOk at h
  simp only [Bool.and_eq_true, decide_eq_true_eq] at h
  obtain ⟨hg, ⟨hd, hf, hw⟩, hb, _, hl⟩ := h
  obtain ⟨h1, h2, h3, h4, h5⟩ := behaveOk_facts hb
  refine ⟨fun i hi => ?_, by omega, hd, hf, hw, h1, h2, h3, h4, h5⟩
  have := List.all_eq_true.1 hg i (by simp [List.mem_range']; omega)
  unfold glP at this
  rw [Bool.and_eq_true] at this
  exact this.1

theorem sideTx_len (l : List S67) (sel win : Int) (h : sideOk l sel win = true) : (sideTx l sel win).length ≤ 500 := by
  obtain ⟨hn, hs, hw, hp⟩ := sideOk_facts h
  have l1 := itoa_len sel (by omega) (by omega)
  have l2 := itoa_len win (by omega) (by omega)
  have key := fold_inv (n := l.length) (st := fun s (i : Nat) => s ++ polTx (rd_T67 l i)) (Inv := fun s i => s.length ≤ 100 + 100 * i) ?_ l.length 0 (Lib.itoa sel ++ [32] ++ Lib.itoa win) (by omega) ?_
  · have : (sideTx l sel win).length ≤ 100 + 100 * l.length := key
    omega
  · intro s i hi hI
    obtain ⟨p0, p1, p2⟩ := hp i hi
    have n0 := itoa_len _ (show -9223372036854775808 ≤ (rd_T67 l i).f0 by omega) (by omega)
    have n1 := itoa_len _ (show -9223372036854775808 ≤ (rd_T67 l i).f1 by omega) (by omega)
    have n2 := itoa_len _ (show -9223372036854775808 ≤ (rd_T67 l i).f2 by omega) (by omega)
    show (s ++ polTx _).length ≤ _
    simp only [polTx, List.length_append, List.length_cons, List.length_nil]
    have : s.length ≤ 100 + 100 * i := hI
    omega
  · simp only [List.length_append, List.length_cons, List.length_nil]; omega

theorem Ev.of_eq {α : Type} {f : Nat → Option α} {a b : α} (e : b = a) (h : Ev f b) : Ev f a := e ▸ h
def headTx (d f w : Int) : List UInt8 := [114, 117, 108, 101, 115, 32] ++ Lib.itoa d ++ [32] ++ Lib.itoa f ++ [32] ++ Lib.itoa w ++ [10]
def glTx (g : S75) : List UInt8 := [103, 111, 97, 108, 32] ++ goalTx g ++ [10]
def tailTx (ul : List S67) (us uw : Int) (dl : List S67) (ds dw m n : Int) : List UInt8 :=
  [99, 111, 117, 110, 116, 32] ++ Lib.itoa m ++ [32] ++ Lib.itoa n ++ [10, 117, 112, 32] ++ sideTx ul us uw ++ [10, 100, 111, 119, 110, 32] ++ sideTx dl ds dw ++ [10]
def setupTx (d f w : Int) (l : List S75) (ul : List S67) (us uw : Int) (dl : List S67) (ds dw m n : Int) : List UInt8 :=
  (List.range' 0 l.length).foldl (fun s (i : Nat) => s ++ glTx (rd_T75 l i)) (headTx d f w) ++ tailTx ul us uw dl ds dw m n
theorem glTx_len (g : S75) (h : goalOk g = true) : (glTx g).length ≤ 80 := by
  have := goalTx_len g h
  unfold glTx
  simp only [List.length_append, List.length_cons, List.length_nil]
  omega
theorem setupText_spec (d f w : Int) (l : List S75) (hl : l.length ≤ 1048576) (hs : ∀ x ∈ l, x.f0.size ≤ 9223372036854775807) (ul : List S67) (us uw : Int) (dl : List S67) (ds dw m n : Int) (h : setupOk d f w l ul us uw dl ds dw m n = true) : Ev (fun k => spec_SetupText.f k d f w l ul us uw dl ds dw m n) (S (setupTx d f w l ul us uw dl ds dw m n), true) := by
  obtain ⟨hg, hl3, ⟨d0, d1⟩, ⟨f0, f1⟩, ⟨w0, w1⟩, hu, hd, m0, mn, n1⟩ := setupOk_facts h
  have ld := itoa_len d (by omega) (by omega)
  have lf := itoa_len f (by omega) (by omega)
  have lw := itoa_len w (by omega) (by omega)
  have lm := itoa_len m (by omega) (by omega)
  have ln := itoa_len n (by omega) (by omega)
  have lu := sideTx_len ul us uw hu
  have ldn := sideTx_len dl ds dw hd
  have e0 := setupOk_spec d f w l hl hs ul us uw dl ds dw m n
  rw [h] at e0
  unfold spec_SetupText.f
  refine Ev.bind e0 (Ev.pos rfl (Ev.bind (ev_num d (by omega) (by omega)) (Ev.pos ?_ (Ev.pos ?_ (Ev.bind (ev_num f (by omega) (by omega)) (Ev.pos ?_ (Ev.pos ?_ (Ev.bind (ev_num w (by omega) (by omega)) (Ev.pos ?_ (Ev.pos ?_ ?_))))))))))
  · (simp only [S_lit, S_app, S_size, List.length_append, List.length_cons, List.length_nil]; omega)
  · (simp only [S_lit, S_app, S_size, List.length_append, List.length_cons, List.length_nil]; omega)
  · (simp only [S_lit, S_app, S_size, List.length_append, List.length_cons, List.length_nil]; omega)
  · (simp only [S_lit, S_app, S_size, List.length_append, List.length_cons, List.length_nil]; omega)
  · (simp only [S_lit, S_app, S_size, List.length_append, List.length_cons, List.length_nil]; omega)
  · (simp only [S_lit, S_app, S_size, List.length_append, List.length_cons, List.length_nil]; omega)
  simp only [S_lit, S_app]
  unfold setupTx
  refine ev_fold (n := l.length) (F := fun k s i => spec_SetupText.l0 k (S s) i d f w l ul us uw dl ds dw m n) (out := fun s => (S (s ++ tailTx ul us uw dl ds dw m n), true)) (st := fun s (i : Nat) => s ++ glTx (rd_T75 l i)) (Inv := fun s i => s.length ≤ 200 + 100 * i) ?_ ?_ l.length 0 (headTx d f w) (by omega) ?_
  · intro s hI
    have hI' : s.length ≤ 500 := by have : s.length ≤ 200 + 100 * l.length := hI; omega
    refine Ev.step (fun k => rfl) (Ev.neg (by omega) (Ev.pos ?_ (Ev.bind (ev_num m (by omega) (by omega)) (Ev.pos ?_ (Ev.pos ?_ (Ev.bind (ev_num n (by omega) (by omega)) (Ev.pos ?_ (Ev.pos ?_ (Ev.bind (sideText_spec ul us uw hu) (Ev.pos ?_ (Ev.pos ?_ (Ev.bind (sideText_spec dl ds dw hd) (Ev.pos ?_ (Ev.pos ?_ ?_))))))))))))))
    · (simp only [S_lit, S_app, S_size, List.length_append, List.length_cons, List.length_nil]; omega)
    · (simp only [S_lit, S_app, S_size, List.length_append, List.length_cons, List.length_nil]; omega)
    · (simp only [S_lit, S_app, S_size, List.length_append, List.length_cons, List.length_nil]; omega)
    · (simp only [S_lit, S_app, S_size, List.length_append, List.length_cons, List.length_nil]; omega)
    · (simp only [S_lit, S_app, S_size, List.length_append, List.length_cons, List.length_nil]; omega)
    · (simp only [S_lit, S_app, S_size, List.length_append, List.length_cons, List.length_nil]; omega)
    · (simp only [S_lit, S_app, S_size, List.length_append, List.length_cons, List.length_nil]; omega)
    · (simp only [S_lit, S_app, S_size, List.length_append, List.length_cons, List.length_nil]; omega)
    · (simp only [S_lit, S_app, S_size, List.length_append, List.length_cons, List.length_nil]; omega)
    simp only [S_lit, S_app]
    refine Ev.of_eq ?_ (Ev.now _)
    simp [tailTx]
  · intro s i hi hI
    have hI' : s.length ≤ 500 := by have : s.length ≤ 200 + 100 * i := hI; omega
    have gl := glTx_len _ (hg i hi)
    have tl := goalTx_len _ (hg i hi)
    refine ⟨?_, fun r hr => ?_⟩
    · show (s ++ glTx _).length ≤ _
      have : s.length ≤ 200 + 100 * i := hI
      simp only [List.length_append]; omega
    · refine Ev.step (fun k => rfl) (Ev.pos (by omega) (Ev.pos ?_ (Ev.pos (by omega) (Ev.bind (goalLine_spec _ (hg i hi)) (Ev.pos ?_ (Ev.pos ?_ ?_))))))
      · (simp only [S_lit, S_app, S_size, List.length_append, List.length_cons, List.length_nil]; omega)
      · (simp only [S_lit, S_app, S_size, List.length_append, List.length_cons, List.length_nil]; omega)
      · (simp only [S_lit, S_app, S_size, List.length_append, List.length_cons, List.length_nil]; omega)
      · simp only [S_lit, S_app]
        rw [wr_succ hi (by omega)]
        have e : s ++ [103, 111, 97, 108, 32] ++ goalTx (rd_T75 l i) ++ [10] = s ++ glTx (rd_T75 l i) := by simp [glTx]
        rw [e]
        exact hr
  · unfold headTx
    simp only [List.length_append, List.length_cons, List.length_nil]; omega

theorem setupText_impl (d f w : Int) (l : List S75) (hl : l.length ≤ 1048576) (hs : ∀ x ∈ l, x.f0.size ≤ 9223372036854775807) (ul : List S67) (hul : ul.length ≤ 1048576) (us uw : Int) (dl : List S67) (hdl : dl.length ≤ 1048576) (ds dw m n : Int) (h : setupOk d f w l ul us uw dl ds dw m n = true) : Ev (fun k => impl_SetupText.f k d f w l ul us uw dl ds dw m n) (S (setupTx d f w l ul us uw dl ds dw m n), true) := by
  obtain ⟨hg, hl3, ⟨d0, d1⟩, ⟨f0, f1⟩, ⟨w0, w1⟩, hu, hd, m0, mn, n1⟩ := setupOk_facts h
  have ld := itoa_len d (by omega) (by omega)
  have lf := itoa_len f (by omega) (by omega)
  have lw := itoa_len w (by omega) (by omega)
  have lm := itoa_len m (by omega) (by omega)
  have ln := itoa_len n (by omega) (by omega)
  have lu := sideTx_len ul us uw hu
  have ldn := sideTx_len dl ds dw hd
  have e0 := setupOk_impl d f w l hl hs ul hul us uw dl hdl ds dw m n
  rw [h] at e0
  have n' : ∀ a : Int, 0 ≤ a → a ≤ 1000 → impl_number.f a = some (S (Lib.itoa a)) := fun a h0 h1 => number_is a (by omega) (by omega)
  unfold impl_SetupText.f
  refine Ev.bind e0 (Ev.pos rfl (Ev.bind0 (n' d d0 d1) (Ev.bind0 (n' f f0 f1) (Ev.bind0 (n' w w0 w1) (Ev.bind0 (words4 [114, 117, 108, 101, 115] _ _ _ ?_) (Ev.pos ?_ ?_))))))
  · simp only [List.length_cons, List.length_nil]; omega
  · (simp only [S_lit, S_app, S_size, List.length_append, List.length_cons, List.length_nil]; omega)
  simp only [S_lit, S_app]
  unfold setupTx
  refine ev_fold (n := l.length) (F := fun k s i => impl_SetupText.l0 k (S s) l (l.length : Int) i d f w l ul us uw dl ds dw m n) (out := fun s => (S (s ++ tailTx ul us uw dl ds dw m n), true)) (st := fun s (i : Nat) => s ++ glTx (rd_T75 l i)) (Inv := fun s i => s.length ≤ 200 + 100 * i) ?_ ?_ l.length 0 (headTx d f w) (by omega) ?_
  · intro s hI
    have hI' : s.length ≤ 500 := by have : s.length ≤ 200 + 100 * l.length := hI; omega
    refine Ev.step (fun k => rfl) (Ev.neg (by omega) (Ev.bind0 (n' m m0 (by omega)) (Ev.bind0 (n' n (by omega) n1) (Ev.bind0 (words3 [99, 111, 117, 110, 116] _ _ ?_) (Ev.pos ?_ (Ev.pos ?_ (Ev.pos ?_ (Ev.bind (sideText_impl ul us uw hu) (Ev.pos ?_ (Ev.pos ?_ (Ev.bind (sideText_impl dl ds dw hd) (Ev.pos ?_ (Ev.pos ?_ ?_)))))))))))))
    · simp only [List.length_cons, List.length_nil]; omega
    · (simp only [S_lit, S_app, S_size, List.length_append, List.length_cons, List.length_nil]; omega)
    · (simp only [S_lit, S_app, S_size, List.length_append, List.length_cons, List.length_nil]; omega)
    · (simp only [S_lit, S_app, S_size, List.length_append, List.length_cons, List.length_nil]; omega)
    · (simp only [S_lit, S_app, S_size, List.length_append, List.length_cons, List.length_nil]; omega)
    · (simp only [S_lit, S_app, S_size, List.length_append, List.length_cons, List.length_nil]; omega)
    · (simp only [S_lit, S_app, S_size, List.length_append, List.length_cons, List.length_nil]; omega)
    · (simp only [S_lit, S_app, S_size, List.length_append, List.length_cons, List.length_nil]; omega)
    simp only [S_lit, S_app]
    refine Ev.of_eq ?_ (Ev.now _)
    simp [tailTx]
  · intro s i hi hI
    have hI' : s.length ≤ 500 := by have : s.length ≤ 200 + 100 * i := hI; omega
    have gl := glTx_len _ (hg i hi)
    have tl := goalTx_len _ (hg i hi)
    refine ⟨?_, fun r hr => ?_⟩
    · show (s ++ glTx _).length ≤ _
      have : s.length ≤ 200 + 100 * i := hI
      simp only [List.length_append]; omega
    · refine Ev.step (fun k => rfl) (Ev.pos (by omega) (Ev.pos (by omega) (Ev.pos (by omega) (Ev.bind (goalLine_impl _ (hg i hi)) (Ev.pos ?_ (Ev.pos ?_ (Ev.pos ?_ ?_)))))))
      · (simp only [S_lit, S_app, S_size, List.length_append, List.length_cons, List.length_nil]; omega)
      · (simp only [S_lit, S_app, S_size, List.length_append, List.length_cons, List.length_nil]; omega)
      · (simp only [S_lit, S_app, S_size, List.length_append, List.length_cons, List.length_nil]; omega)
      · simp only [S_lit, S_app]
        rw [wr_succ hi (by omega)]
        exact hr
  · unfold headTx
    simp only [List.length_append, List.length_cons, List.length_nil]; omega

/-- For every Setup both give one text and one answer. -/
theorem setupText_ends (d f w : Int) (l : List S75) (hl : l.length ≤ 1048576) (hs : ∀ x ∈ l, x.f0.size ≤ 9223372036854775807) (ul : List S67) (hul : ul.length ≤ 1048576) (us uw : Int) (dl : List S67) (hdl : dl.length ≤ 1048576) (ds dw m n : Int) : ∃ X, Ev (fun k => spec_SetupText.f k d f w l ul us uw dl ds dw m n) X ∧ Ev (fun k => impl_SetupText.f k d f w l ul us uw dl ds dw m n) X := by
  cases h : setupOk d f w l ul us uw dl ds dw m n with
  | true => exact ⟨_, setupText_spec d f w l hl hs ul us uw dl ds dw m n h, setupText_impl d f w l hl hs ul hul us uw dl hdl ds dw m n h⟩
  | false =>
    have e0 := setupOk_spec d f w l hl hs ul us uw dl ds dw m n
    have e1 := setupOk_impl d f w l hl hs ul hul us uw dl hdl ds dw m n
    rw [h] at e0 e1
    unfold spec_SetupText.f impl_SetupText.f
    exact ⟨_, Ev.bind e0 (Ev.neg (by decide) (Ev.now _)), Ev.bind e1 (Ev.neg (by decide) (Ev.now _))⟩
end Go.Proofs.YtblfoelddakelaaDoor.Texts
namespace Go.Proofs.YtblfoelddakelaaDoor.Pure
open Go.RowKit Go.Proofs.YtblfoelddakelaaDoorW.PrintWords Go.Proofs.YtblfoelddakelaaDoorW.PrintMore Go.Proofs.YtblfoelddakelaaDoorW.PrintLast Go.Proofs.YtblfoelddakelaaDoor.U Go.Proofs.YtblfoelddakelaaDoor.Base Go.Proofs.YtblfoelddakelaaDoor.Texts
theorem FnExactSetupText : ∀ (a0_0 : Int) (a0_1 : Int) (a0_2 : Int) (l0_3 : List (S97)) (l0_4 : List (S94)) (a0_5 : Int) (a0_6 : Int) (l0_7 : List (S94)) (a0_8 : Int) (a0_9 : Int) (a0_10 : Int) (a0_11 : Int), (Lit.int .i64 a0_0).wf = true → (Lit.int .i64 a0_1).wf = true → (Lit.int .i64 a0_2).wf = true → (l0_3.length ≤ 9223372036854775807 ∧ ∀ x ∈ l0_3, (x.f0.size ≤ 9223372036854775807 ∧ (Lit.int .i64 x.f1).wf = true ∧ (Lit.int .i64 x.f2).wf = true)) → (l0_4.length ≤ 9223372036854775807 ∧ ∀ x ∈ l0_4, ((Lit.int .i64 x.f0).wf = true ∧ (Lit.int .i64 x.f1).wf = true ∧ (Lit.int .i64 x.f2).wf = true)) → (Lit.int .i64 a0_5).wf = true → (Lit.int .i64 a0_6).wf = true → (l0_7.length ≤ 9223372036854775807 ∧ ∀ x ∈ l0_7, ((Lit.int .i64 x.f0).wf = true ∧ (Lit.int .i64 x.f1).wf = true ∧ (Lit.int .i64 x.f2).wf = true)) → (Lit.int .i64 a0_8).wf = true → (Lit.int .i64 a0_9).wf = true → (Lit.int .i64 a0_10).wf = true → (Lit.int .i64 a0_11).wf = true → ∃ k, laws_FnExactSetupText.f k a0_0 a0_1 a0_2 l0_3 l0_4 a0_5 a0_6 l0_7 a0_8 a0_9 a0_10 a0_11 = some true := by
  intro d f w g l a b l' a' b' m n _ _ _ hg hl _ _ hl' _ _ _ _
  apply Ev.rounds (g := fun k => laws_FnExactSetupText.f k d f w g l a b l' a' b' m n)
  unfold laws_FnExactSetupText.f
  rcases szSetup_ends d f w g hg.1 (fun x hx => (hg.2 x hx).1) l hl.1 a b l' hl'.1 a' b' m n 1048576 (by omega) (by omega) with h | ⟨L, h, h0, _, h1, h2, h3⟩
  · exact Ev.bind h (Ev.pos (by omega) (Ev.now true))
  · refine Ev.bind h (Ev.neg (by omega) ?_)
    have hb := ev_toSetup d f w g h1 l h2 a b l' h3 a' b' m n
    have e1 : (g.map cvGoal).length ≤ 1048576 := by rw [List.length_map]; exact h1
    have e2 : (l.map cvPolicy).length ≤ 1048576 := by rw [List.length_map]; exact h2
    have e3 : (l'.map cvPolicy).length ≤ 1048576 := by rw [List.length_map]; exact h3
    have hs : ∀ x ∈ g.map cvGoal, x.f0.size ≤ 9223372036854775807 := by
      intro x hx
      rw [List.mem_map] at hx
      obtain ⟨y, hy, rfl⟩ := hx
      exact (hg.2 y hy).1
    obtain ⟨X, hs1, hi1⟩ := setupText_ends d f w (g.map cvGoal) e1 hs (l.map cvPolicy) e2 a b (l'.map cvPolicy) e3 a' b' m n
    refine Ev.bind hb (Ev.bind hs1 (Ev.bind hb (Ev.bind hi1 (Ev.pos rfl ?_))))
    refine Ev.step (fun k => laws_FnExactSetupText.j0.eq_2 ..) (Ev.neg (by simp) (Ev.bind hb (Ev.bind (ev_eqSetup _ _ _ _ e1 _ e2 _ _ _ e3 _ _ _ _) ?_)))
    exact Ev.now true
end Go.Proofs.YtblfoelddakelaaDoor.Pure
