/- For every Setup and count the law of NewHerd answers true.
   Conditions: none. -/
import Derived.Test.YtblfoelddakelaaVMore
import Derived.Test.YtblfoelddakelaaH17
import Derived.Test.YtblfoelddakelaaH4
import Derived.Test.YtblfoelddakelaaH18
import Derived.Test.YtblfoelddakelaaH5
import Derived.Test.YtblfoelddakelaaH13
import Derived.Test.YtblfoelddakelaaH15
import Derived.Test.YtblfoelddakelaaH2
import Derived.Test.YtblfoelddakelaaH12
import Derived.Test.YtblfoelddakelaaH11
import Derived.Test.YtblfoelddakelaaH6
import Derived.Test.YtblfoelddakelaaH14
import Derived.Test.YtblfoelddakelaaH20
import Derived.Test.YtblfoelddakelaaH31
import Derived.Test.YtblfoelddakelaaH19
import Derived.Test.YtblfoelddakelaaH28
import Derived.Test.YtblfoelddakelaaH21
import Derived.Test.YtblfoelddakelaaH32
import Derived.Test.YtblfoelddakelaaH24
import Derived.Test.YtblfoelddakelaaH34
import Derived.Test.YtblfoelddakelaaH22
import Derived.Test.YtblfoelddakelaaH29
import Derived.Test.YtblfoelddakelaaH23
import Derived.Test.YtblfoelddakelaaH30
import Derived.Test.YtblfoelddakelaaH37
import Derived.Test.YtblfoelddakelaaH27
import Derived.Test.YtblfoelddakelaaH26
import Derived.Test.YtblfoelddakelaaH25
import Derived.Test.YtblfoelddakelaaH35
import Derived.Test.YtblfoelddakelaaH36
import Derived.Test.YtblfoelddakelaaH39
import Derived.Test.YtblfoelddakelaaH7
import Derived.Test.YtblfoelddakelaaH8
import Derived.Test.YtblfoelddakelaaH42
import Derived.Test.YtblfoelddakelaaH9
import Derived.Test.YtblfoelddakelaaH43
import Derived.Test.YtblfoelddakelaaH10
import Derived.Test.YtblfoelddakelaaH44
import Derived.Test.YtblfoelddakelaaH45
import Derived.Test.YtblfoelddakelaaH40
import Derived.Test.YtblfoelddakelaaH46
import Derived.Test.YtblfoelddakelaaH41
import Derived.Test.YtblfoelddakelaaH47
import Derived.Test.YtblfoelddakelaaH48
/- Plain facts: loops of the printed functions, from some number of rounds on.
   Conditions: none. -/
namespace Go.Proofs.Ytblfoelddakelaa.Base
open Go.RowKit Go.Proofs.YtblfoelddakelaaW.PrintWords Go.Proofs.YtblfoelddakelaaW.PrintMore

theorem wr_succ {i n : Nat} (h : i < n) (hn : n ≤ 4611686018427387904) : wrap64 ((i : Int) + 1) = ((i + 1 : Nat) : Int) := by
  unfold wrap64; omega
theorem wr_pred {i : Nat} (h : 0 < i) (hn : i ≤ 4611686018427387904) : wrap64 ((i : Int) - 1) = ((i - 1 : Nat) : Int) := by
  unfold wrap64; omega
theorem wr_id {x : Int} (h : -9223372036854775808 ≤ x) (h' : x ≤ 9223372036854775807) : wrap64 x = x := by
  unfold wrap64; omega

theorem Ev.pos {α : Type} {c : Prop} [Decidable c] {f g : Nat → Option α} {r : α} (hc : c) (h : Ev f r) : Ev (fun k => if c then f k else g k) r := by
  obtain ⟨K, h⟩ := h
  exact ⟨K, fun k hk => (if_pos hc).trans (h k hk)⟩
theorem Ev.neg {α : Type} {c : Prop} [Decidable c] {f g : Nat → Option α} {r : α} (hc : ¬ c) (h : Ev g r) : Ev (fun k => if c then f k else g k) r := by
  obtain ⟨K, h⟩ := h
  exact ⟨K, fun k hk => (if_neg hc).trans (h k hk)⟩
/-- A bind of what needs no rounds. -/
theorem Ev.bind0 {α β : Type} {o : Option α} {a : α} {f : Nat → α → Option β} {r : β} (h : o = some a) (k : Ev (fun n => f n a) r) : Ev (fun n => o.bind (f n)) r := by
  subst h; exact k
theorem Ev.unique {α : Type} {g : Nat → Option α} {r q : α} (h : Ev g r) (h' : Ev g q) : r = q := by
  obtain ⟨K, h⟩ := h
  obtain ⟨K', h'⟩ := h'
  have a := h (max K K') (Nat.le_max_left _ _)
  rw [h' (max K K') (Nat.le_max_right _ _)] at a
  exact (Option.some.inj a).symm

/-- A loop over 0 .. n-1 with a state. -/
theorem ev_fold {σ ρ : Type} {F : Nat → σ → Int → Option ρ} {n : Nat} {st : σ → Nat → σ} {out : σ → ρ} {Inv : σ → Nat → Prop}
    (hend : ∀ s, Inv s n → Ev (fun k => F k s (n : Int)) (out s))
    (hstep : ∀ s i, i < n → Inv s i → Inv (st s i) (i + 1) ∧ ∀ r, Ev (fun k => F k (st s i) ((i + 1 : Nat) : Int)) r → Ev (fun k => F k s (i : Int)) r) :
    ∀ d i s, i + d = n → Inv s i → Ev (fun k => F k s (i : Int)) (out ((List.range' i d).foldl st s)) := by
  intro d
  induction d with
  | zero =>
    intro i s hi hI
    obtain rfl : i = n := by omega
    simpa using hend s hI
  | succ d ih =>
    intro i s hi hI
    obtain ⟨hI', hs⟩ := hstep s i (by omega) hI
    rw [List.range'_succ, List.foldl_cons]
    exact hs _ (ih (i + 1) (st s i) (by omega) hI')

theorem fold_inv {σ : Type} {n : Nat} {st : σ → Nat → σ} {Inv : σ → Nat → Prop} (hstep : ∀ s i, i < n → Inv s i → Inv (st s i) (i + 1)) :
    ∀ d i s, i + d = n → Inv s i → Inv ((List.range' i d).foldl st s) n := by
  intro d
  induction d with
  | zero => intro i s hi h; obtain rfl : i = n := by omega
            simpa using h
  | succ d ih => intro i s hi h; rw [List.range'_succ, List.foldl_cons]; exact ih (i + 1) _ (by omega) (hstep s i (by omega) h)

/-- A loop over 0 .. n-1 that ends at the first i where p does not hold. -/
theorem ev_all {F : Nat → Int → Option Bool} {n : Nat} {p : Nat → Bool} {q : Bool}
    (hend : Ev (fun k => F k (n : Int)) q)
    (hno : ∀ i, i < n → p i = false → Ev (fun k => F k (i : Int)) false)
    (hstep : ∀ i r, i < n → p i = true → Ev (fun k => F k ((i + 1 : Nat) : Int)) r → Ev (fun k => F k (i : Int)) r) :
    ∀ d i, i + d = n → Ev (fun k => F k (i : Int)) ((List.range' i d).all p && q) := by
  intro d
  induction d with
  | zero =>
    intro i hi
    obtain rfl : i = n := by omega
    simpa using hend
  | succ d ih =>
    intro i hi
    rw [List.range'_succ, List.all_cons]
    cases hp : p i with
    | false => simpa using hno i (by omega) hp
    | true =>
      rw [Bool.true_and]
      exact hstep i _ (by omega) hp (ih (i + 1) (by omega))

/-- The same where each round takes one. -/
theorem ev_all1 {F : Nat → Int → Option Bool} {n : Nat} {p : Nat → Bool} {q : Bool}
    (hend : Ev (fun k => F k (n : Int)) q)
    (hstep : ∀ i k, i < n → F (k + 1) (i : Int) = if p i = true then F k ((i + 1 : Nat) : Int) else some false) :
    Ev (fun k => F k 0) ((List.range' 0 n).all p && q) :=
  ev_all (F := F) (n := n) (p := p) (q := q) hend (fun i hi hp => Ev.step (f := fun _ => some false) (fun k => by rw [hstep i k hi, hp]; simp) (Ev.now false))
    (fun i r hi hp h => Ev.step (fun k => by rw [hstep i k hi, hp]; simp) h) n 0 (by omega)

/-- A loop that fills a list, one place a round. -/
theorem ev_fill {β : Type} {F : Nat → List β → Int → Option (List β)} {n : Nat} {g : Nat → β}
    (hend : ∀ s : List β, s.length = n → Ev (fun k => F k s (n : Int)) s)
    (hstep : ∀ (s : List β) (i : Nat) (r : List β), i < n → s.length = n → Ev (fun k => F k (s.set i (g i)) ((i + 1 : Nat) : Int)) r → Ev (fun k => F k s (i : Int)) r)
    (s : List β) (hs : s.length = n) : Ev (fun k => F k s 0) ((List.range n).map g) := by
  have h := ev_fold (F := F) (n := n) (st := fun s i => s.set i (g i)) (out := fun s => s) (Inv := fun s i => s.length = n ∧ ∀ j, j < i → s[j]? = some (g j)) (fun s hI => hend s hI.1)
    (fun s i hi hI => ⟨⟨by rw [List.length_set]; exact hI.1, fun j hj => by
      by_cases hji : j = i
      · subst hji; rw [List.getElem?_set_self (by omega)]
      · rw [List.getElem?_set_ne (by omega)]; exact hI.2 j (by omega)⟩, fun r h => hstep s i r hi hI.1 h⟩) n 0 s (by omega) ⟨hs, fun j hj => absurd hj (Nat.not_lt_zero _)⟩
  have e : (List.range' 0 n).foldl (fun s i => s.set i (g i)) s = (List.range n).map g := by
    have key : ∀ d i (s : List β), s.length = n → i + d = n → (∀ j, j < i → s[j]? = some (g j)) → ∀ j, j < n → ((List.range' i d).foldl (fun s i => s.set i (g i)) s)[j]? = some (g j) ∧ ((List.range' i d).foldl (fun s i => s.set i (g i)) s).length = n := by
      intro d
      induction d with
      | zero => intro i s hs hi hj j hjn; simpa using ⟨hj j (by omega), hs⟩
      | succ d ih =>
        intro i s hs hi hj j hjn
        rw [List.range'_succ, List.foldl_cons]
        refine ih (i + 1) _ (by rw [List.length_set]; exact hs) (by omega) (fun j hj' => ?_) j hjn
        by_cases hji : j = i
        · subst hji; rw [List.getElem?_set_self (by omega)]
        · rw [List.getElem?_set_ne (by omega)]; exact hj j (by omega)
    apply List.ext_getElem?
    intro j
    by_cases hj : j < n
    · rw [(key n 0 s hs (by omega) (fun j hj => absurd hj (Nat.not_lt_zero _)) j hj).1]
      simp [hj]
    · have hl : ((List.range' 0 n).foldl (fun s i => s.set i (g i)) s).length = n := by
        by_cases h0 : n = 0
        · subst h0; simpa using hs
        · exact (key n 0 s hs (by omega) (fun j hj => absurd hj (Nat.not_lt_zero _)) 0 (by omega)).2
      rw [List.getElem?_eq_none (by omega)]
      simp [hj]
  rw [e] at h
  exact h

theorem map_range_getD {α β : Type} (l : List α) (d : α) (f : α → β) : ((List.range l.length).map fun i => f (l.getD i d)) = l.map f := by
  apply List.ext_getElem?
  intro i
  by_cases hi : i < l.length
  · simp [hi, List.getD]
  · simp [hi]

theorem sz_len {n : Nat} (hn : n ≤ 9223372036854775807) {L : Int} (h0 : 0 ≤ L) (hL : L ≤ 1048576) : wrap64 (L - (n : Int)) = L - n := by
  unfold wrap64; omega
end Go.Proofs.Ytblfoelddakelaa.Base
/- Copying a list of Policys gives the list; a list of Policys equals itself.
   Conditions: none. -/
namespace Go.Proofs.Ytblfoelddakelaa.Base
open Go.RowKit Go.Proofs.YtblfoelddakelaaW.PrintWords Go.Proofs.YtblfoelddakelaaW.PrintMore Go.Proofs.Ytblfoelddakelaa.H
def cvPolicy (x : S132) : S71 := ⟨x.f0, x.f1, x.f2⟩
theorem ev_toPolicyS (l : List S132) (hl : l.length ≤ 1048576) : Ev (fun k => laws_toPolicyS.f k l) (l.map cvPolicy) := by
  unfold laws_toPolicyS.f
  refine Ev.pos (by omega) (Ev.pos (by simp; omega) ?_)
  have h := ev_fill (F := fun k s i => laws_toPolicyS.l0 k l s i) (n := l.length) (g := fun i => cvPolicy (l.getD i z132)) ?_ ?_ (List.replicate l.length z71) (by simp)
  · rw [map_range_getD] at h
    simpa using h
  · intro s hs
    exact Ev.step (f := fun _ => some s) (fun k => by simp only [laws_toPolicyS.l0]; rw [if_neg (by omega)]) (Ev.now s)
  · intro s i r hi hs h
    refine Ev.step (fun k => ?_) h
    simp only [laws_toPolicyS.l0, laws_toPolicy.f, Option.bind_some]
    rw [if_pos (by omega), if_pos (by omega), if_pos (by omega), wr_succ hi (by omega)]
    simp [cvPolicy, rd_T132]
theorem ev_eqPolicyS (l : List S71) (hl : l.length ≤ 1048576) : Ev (fun k => laws_eqPolicyS.f k l l) true := by
  unfold laws_eqPolicyS.f
  refine Ev.pos rfl ?_
  have h := ev_all (F := fun k i => laws_eqPolicyS.l0 k l l i) (n := l.length) (p := fun _ => true) (q := true) ?_ ?_ ?_ l.length 0 (by omega)
  · have e : (List.range' 0 l.length).all (fun _ => true) = true := by rw [List.all_eq_true]; intros; rfl
    rw [e] at h
    exact h
  · exact Ev.step (f := fun _ => some true) (fun k => by simp only [laws_eqPolicyS.l0]; rw [if_neg (by omega)]) (Ev.now true)
  · intro i _ h; cases h
  · intro i r hi _ h
    refine Ev.step (fun k => ?_) h
    simp only [laws_eqPolicyS.l0, laws_eqPolicy.f, if_true, Option.bind_some]
    rw [if_pos (by omega), if_pos (by omega), if_pos (by omega), wr_succ hi (by omega)]
end Go.Proofs.Ytblfoelddakelaa.Base
/- Copying a Side or a Behave gives it; each equals itself; their sizes.
   Conditions: none. -/
namespace Go.Proofs.Ytblfoelddakelaa.Base
open Go.RowKit Go.Proofs.YtblfoelddakelaaW.PrintWords Go.Proofs.YtblfoelddakelaaW.PrintMore Go.Proofs.Ytblfoelddakelaa.H
theorem ev_toSide (l : List S132) (hl : l.length ≤ 1048576) (a b : Int) : Ev (fun k => laws_toSide.f k l a b) (l.map cvPolicy, a, b) := by
  unfold laws_toSide.f
  exact Ev.bind (ev_toPolicyS l hl) (Ev.now _)
theorem ev_toBehave (l : List S132) (hl : l.length ≤ 1048576) (a b : Int) (l' : List S132) (hl' : l'.length ≤ 1048576) (a' b' m n : Int) : Ev (fun k => laws_toBehave.f k l a b l' a' b' m n) (l.map cvPolicy, a, b, l'.map cvPolicy, a', b', m, n) := by
  unfold laws_toBehave.f
  exact Ev.bind (ev_toSide l hl a b) (Ev.bind (ev_toSide l' hl' a' b') (Ev.now _))
theorem ev_eqSide (l : List S71) (hl : l.length ≤ 1048576) (a b : Int) : Ev (fun k => laws_eqSide.f k l a b l a b) true := by
  unfold laws_eqSide.f
  exact Ev.bind (ev_eqPolicyS l hl) (Ev.pos rfl (Ev.pos rfl (Ev.pos rfl (Ev.now _))))
theorem ev_eqBehave (l : List S71) (hl : l.length ≤ 1048576) (a b : Int) (l' : List S71) (hl' : l'.length ≤ 1048576) (a' b' m n : Int) : Ev (fun k => laws_eqBehave.f k l a b l' a' b' m n l a b l' a' b' m n) true := by
  unfold laws_eqBehave.f
  exact Ev.bind (ev_eqSide l hl a b) (Ev.pos rfl (Ev.bind (ev_eqSide l' hl' a' b') (Ev.pos rfl (Ev.pos rfl (Ev.pos rfl (Ev.now _))))))
theorem szSide_ends (l : List S132) (hl : l.length ≤ 9223372036854775807) (a b L : Int) (h0 : 0 ≤ L) (hL : L ≤ 1048576) : laws_szSide.f l a b L = some (-1) ∨ ∃ L', laws_szSide.f l a b L = some L' ∧ 0 ≤ L' ∧ L' ≤ L ∧ l.length ≤ 1048576 := by
  unfold laws_szSide.f laws_szPolicyS.f
  rw [sz_len hl h0 hL]
  by_cases h : L - (l.length : Int) < 0
  · left; rw [if_pos h]; rfl
  · right; rw [if_neg h]; exact ⟨_, by rw [Option.bind_some, if_neg h], by omega, by omega, by omega⟩
theorem szBehave_ends (l : List S132) (hl : l.length ≤ 9223372036854775807) (a b : Int) (l' : List S132) (hl' : l'.length ≤ 9223372036854775807) (a' b' m n L : Int) (h0 : 0 ≤ L) (hL : L ≤ 1048576) : laws_szBehave.f l a b l' a' b' m n L = some (-1) ∨ ∃ L', laws_szBehave.f l a b l' a' b' m n L = some L' ∧ 0 ≤ L' ∧ L' ≤ L ∧ l.length ≤ 1048576 ∧ l'.length ≤ 1048576 := by
  unfold laws_szBehave.f
  rcases szSide_ends l hl a b L h0 hL with h | ⟨L1, h, h1, h2, h3⟩
  · left; rw [h]; rfl
  · rw [h, Option.bind_some, if_neg (by omega)]
    rcases szSide_ends l' hl' a' b' L1 h1 (by omega) with g | ⟨L2, g, g1, g2, g3⟩
    · left; rw [g]; rfl
    · right; rw [g, Option.bind_some, if_neg (by omega)]; exact ⟨L2, rfl, g1, by omega, h3, g3⟩
end Go.Proofs.Ytblfoelddakelaa.Base
/- Copying a list of goals gives it; it equals itself; its size.
   Conditions: none. -/
namespace Go.Proofs.Ytblfoelddakelaa.Base
open Go.RowKit Go.Proofs.YtblfoelddakelaaW.PrintWords Go.Proofs.YtblfoelddakelaaW.PrintMore Go.Proofs.Ytblfoelddakelaa.H
def cvGoal (x : S98) : S49 := ⟨x.f0, x.f1, x.f2⟩
theorem ev_toGoalS (l : List S98) (hl : l.length ≤ 1048576) : Ev (fun k => laws_toGoalS.f k l) (l.map cvGoal) := by
  unfold laws_toGoalS.f
  refine Ev.pos (by omega) (Ev.pos (by simp; omega) ?_)
  have h := ev_fill (F := fun k s i => laws_toGoalS.l0 k l s i) (n := l.length) (g := fun i => cvGoal (l.getD i z98)) ?_ ?_ (List.replicate l.length z49) (by simp)
  · rw [map_range_getD] at h
    simpa using h
  · intro s hs
    exact Ev.step (f := fun _ => some s) (fun k => by simp only [laws_toGoalS.l0]; rw [if_neg (by omega)]) (Ev.now s)
  · intro s i r hi hs h
    refine Ev.step (fun k => ?_) h
    simp only [laws_toGoalS.l0, laws_toGoal.f, Option.bind_some]
    rw [if_pos (by omega), if_pos (by omega), if_pos (by omega), wr_succ hi (by omega)]
    simp [cvGoal, rd_T98]
theorem eqGoal_self (a : ByteArray) (b c : Int) : laws_eqGoal.f a b c a b c = some true := by
  unfold laws_eqGoal.f
  rw [if_pos rfl, if_pos rfl, if_pos rfl]
theorem ev_eqGoalS (l : List S49) (hl : l.length ≤ 1048576) : Ev (fun k => laws_eqGoalS.f k l l) true := by
  unfold laws_eqGoalS.f
  refine Ev.pos rfl ?_
  have h := ev_all (F := fun k i => laws_eqGoalS.l0 k l l i) (n := l.length) (p := fun _ => true) (q := true) ?_ ?_ ?_ l.length 0 (by omega)
  · have e : (List.range' 0 l.length).all (fun _ => true) = true := by rw [List.all_eq_true]; intros; rfl
    rw [e] at h
    exact h
  · exact Ev.step (f := fun _ => some true) (fun k => by simp only [laws_eqGoalS.l0]; rw [if_neg (by omega)]) (Ev.now true)
  · intro i _ h; cases h
  · intro i r hi _ h
    refine Ev.step (fun k => ?_) h
    simp only [laws_eqGoalS.l0, eqGoal_self, if_true, Option.bind_some]
    rw [if_pos (by omega), if_pos (by omega), if_pos (by omega), wr_succ hi (by omega)]
/-- The size of goals: too great, or what is left. -/
theorem szGoalS_ends (l : List S98) (hl : l.length ≤ 9223372036854775807) (hs : ∀ x ∈ l, x.f0.size ≤ 9223372036854775807) (L : Int) (h0 : 0 ≤ L) (hL : L ≤ 1048576) : Ev (fun k => laws_szGoalS.f k l L) (-1) ∨ ∃ L', Ev (fun k => laws_szGoalS.f k l L) L' ∧ 0 ≤ L' ∧ L' ≤ L ∧ l.length ≤ 1048576 := by
  unfold laws_szGoalS.f
  rw [sz_len hl h0 hL]
  by_cases h : L - (l.length : Int) < 0
  · left; simp only [if_pos h]; exact Ev.now _
  · simp only [if_neg h]
    have hn : l.length ≤ 1048576 := by omega
    have key : ∀ d i (M : Int), i + d = l.length → 0 ≤ M → M ≤ L → Ev (fun k => laws_szGoalS.l0 k l M (i : Int)) (-1) ∨ ∃ L', Ev (fun k => laws_szGoalS.l0 k l M (i : Int)) L' ∧ 0 ≤ L' ∧ L' ≤ L := by
      intro d
      induction d with
      | zero =>
        intro i M hi h1 h2
        right
        exact ⟨M, Ev.step (f := fun _ => some M) (fun k => by simp only [laws_szGoalS.l0]; rw [if_neg (by omega)]) (Ev.now M), h1, h2⟩
      | succ d ih =>
        intro i M hi h1 h2
        have hil : i < l.length := by omega
        have hsz : (rd_T98 l i).f0.size ≤ 9223372036854775807 := by
          have e : rd_T98 l i = l[i] := by simp [rd_T98, List.getD_eq_getElem?_getD, hil]
          rw [e]; exact hs _ (List.getElem_mem hil)
        have hw : wrap64 (M - ((rd_T98 l i).f0.size : Int)) = M - ((rd_T98 l i).f0.size : Int) := wr_id (by omega) (by omega)
        by_cases g : M - ((rd_T98 l i).f0.size : Int) < 0
        · left
          refine Ev.step (f := fun _ => some (-1)) (fun k => ?_) (Ev.now _)
          simp only [laws_szGoalS.l0, laws_szGoal.f, hw]
          rw [if_pos (by omega), if_pos (by omega), if_pos g, Option.bind_some, if_pos (by omega)]
        · have st : ∀ k, laws_szGoalS.l0 (k + 1) l M (i : Int) = laws_szGoalS.l0 k l (M - ((rd_T98 l i).f0.size : Int)) ((i + 1 : Nat) : Int) := by
            intro k
            simp only [laws_szGoalS.l0, laws_szGoal.f, hw]
            rw [if_pos (by omega), if_pos (by omega), if_neg g, Option.bind_some, if_neg g, wr_succ hil (by omega)]
          rcases ih (i + 1) (M - ((rd_T98 l i).f0.size : Int)) (by omega) (by omega) (by omega) with h' | ⟨L', h', h3, h4⟩
          · left; exact Ev.step st h'
          · right; exact ⟨L', Ev.step st h', h3, h4⟩
    rcases key l.length 0 (L - (l.length : Int)) (by omega) (by omega) (by omega) with h' | ⟨L', h', h3, h4⟩
    · left; exact h'
    · right; exact ⟨L', h', h3, h4, hn⟩
end Go.Proofs.Ytblfoelddakelaa.Base
/- Copying a Setup gives it; it equals itself; its size.
   Conditions: none. -/
namespace Go.Proofs.Ytblfoelddakelaa.Base
open Go.RowKit Go.Proofs.YtblfoelddakelaaW.PrintWords Go.Proofs.YtblfoelddakelaaW.PrintMore Go.Proofs.Ytblfoelddakelaa.H
theorem ev_toSetup (d f w : Int) (g : List S98) (hg : g.length ≤ 1048576) (l : List S132) (hl : l.length ≤ 1048576) (a b : Int) (l' : List S132) (hl' : l'.length ≤ 1048576) (a' b' m n : Int) : Ev (fun k => laws_toSetup.f k d f w g l a b l' a' b' m n) (d, f, w, g.map cvGoal, l.map cvPolicy, a, b, l'.map cvPolicy, a', b', m, n) := by
  unfold laws_toSetup.f laws_toRules.f
  exact Ev.bind0 rfl (Ev.bind (ev_toGoalS g hg) (Ev.bind (ev_toBehave l hl a b l' hl' a' b' m n) (Ev.now _)))
theorem eqRules_self (d f w : Int) : laws_eqRules.f d f w d f w = some true := by
  unfold laws_eqRules.f
  rw [if_pos rfl, if_pos rfl, if_pos rfl]
theorem ev_eqSetup (d f w : Int) (g : List S49) (hg : g.length ≤ 1048576) (l : List S71) (hl : l.length ≤ 1048576) (a b : Int) (l' : List S71) (hl' : l'.length ≤ 1048576) (a' b' m n : Int) : Ev (fun k => laws_eqSetup.f k d f w g l a b l' a' b' m n d f w g l a b l' a' b' m n) true := by
  unfold laws_eqSetup.f
  refine Ev.bind0 (eqRules_self d f w) (Ev.pos rfl (Ev.bind (ev_eqGoalS g hg) (Ev.pos rfl (Ev.bind (ev_eqBehave l hl a b l' hl' a' b' m n) (Ev.pos rfl (Ev.now _))))))
theorem szSetup_ends (d f w : Int) (g : List S98) (hg : g.length ≤ 9223372036854775807) (hs : ∀ x ∈ g, x.f0.size ≤ 9223372036854775807) (l : List S132) (hl : l.length ≤ 9223372036854775807) (a b : Int) (l' : List S132) (hl' : l'.length ≤ 9223372036854775807) (a' b' m n L : Int) (h0 : 0 ≤ L) (hL : L ≤ 1048576) :
    Ev (fun k => laws_szSetup.f k d f w g l a b l' a' b' m n L) (-1) ∨ ∃ L', Ev (fun k => laws_szSetup.f k d f w g l a b l' a' b' m n L) L' ∧ 0 ≤ L' ∧ L' ≤ L ∧ g.length ≤ 1048576 ∧ l.length ≤ 1048576 ∧ l'.length ≤ 1048576 := by
  unfold laws_szSetup.f
  rcases szGoalS_ends g hg hs L h0 hL with h | ⟨L1, h, h1, h2, h3⟩
  · left; exact Ev.bind h (Ev.pos (by omega) (Ev.now _))
  · rcases szBehave_ends l hl a b l' hl' a' b' m n L1 h1 (by omega) with q | ⟨L2, q, q1, q2, q3, q4⟩
    · left; exact Ev.bind h (Ev.neg (by omega) (Ev.bind0 q (Ev.pos (by omega) (Ev.now _))))
    · right; exact ⟨L2, Ev.bind h (Ev.neg (by omega) (Ev.bind0 q (Ev.neg (by omega) (Ev.now _)))), q1, by omega, h3, q3, q4⟩
end Go.Proofs.Ytblfoelddakelaa.Base
/- SideOk of the program and of the reference is one plain test.
   Conditions: none. -/
namespace Go.Proofs.Ytblfoelddakelaa.Base
open Go.RowKit Go.Proofs.YtblfoelddakelaaW.PrintWords Go.Proofs.YtblfoelddakelaaW.PrintMore Go.Proofs.Ytblfoelddakelaa.H
theorem in_impl (a b c : Int) : impl_in.f a b c = some (decide (b ≤ a ∧ a ≤ c)) := by
  unfold impl_in.f
  by_cases h : a ≥ b
  · rw [if_pos h]; have h' : b ≤ a := h; simp [h']
  · rw [if_neg h]; have h' : ¬ b ≤ a := h; simp [h']
theorem in_spec (a b c : Int) : spec_l01In.f a b c = some (decide (b ≤ a ∧ a ≤ c)) := by
  unfold spec_l01In.f
  by_cases h : b ≤ a
  · rw [if_pos h]; simp [h]
  · rw [if_neg h]; simp [h]
def sdP (l : List S71) (i : Nat) : Bool := decide (0 ≤ (rd_T71 l i).f0 ∧ (rd_T71 l i).f0 ≤ 1) && (decide (1 ≤ (rd_T71 l i).f1 ∧ (rd_T71 l i).f1 ≤ 1000) && decide (1 ≤ (rd_T71 l i).f2 ∧ (rd_T71 l i).f2 ≤ 1000))
def sideOk (l : List S71) (sel win : Int) : Bool := (List.range' 0 l.length).all (sdP l) && (decide (l.length ≤ 3) && (decide (0 ≤ sel ∧ sel ≤ 2) && decide (0 ≤ win ∧ win ≤ 1000)))
theorem and3_ite {α : Type} (a b c : Bool) (x y : α) : (if (a && (b && c)) = true then x else y) = if a = true then (if b = true then (if c = true then x else y) else y) else y := by
  cases a <;> cases b <;> cases c <;> rfl
theorem sideOk_spec (l : List S71) (sel win : Int) : Ev (fun k => spec_SideOk.f k l sel win) (sideOk l sel win) := by
  unfold spec_SideOk.f sideOk
  by_cases h : (l.length : Int) > 3
  · rw [decide_eq_false (show ¬ l.length ≤ 3 by omega), Bool.false_and, Bool.and_false]
    exact Ev.pos h (Ev.step (f := fun _ => some false) (fun k => by simp [spec_SideOk.j0]) (Ev.now false))
  · rw [decide_eq_true (show l.length ≤ 3 by omega), Bool.true_and]
    refine Ev.neg h ?_
    rw [in_spec, in_spec]
    refine Ev.bind0 rfl ?_
    by_cases h1 : 0 ≤ sel ∧ sel ≤ 2
    · rw [decide_eq_true h1, Bool.true_and]
      refine Ev.pos rfl (Ev.bind0 rfl ?_)
      by_cases h2 : 0 ≤ win ∧ win ≤ 1000
      · rw [decide_eq_true h2]
        refine Ev.step (f := fun k => spec_SideOk.l0 k 0 l sel win) (fun k => by simp [spec_SideOk.j0]) ?_
        refine ev_all1 (F := fun k i => spec_SideOk.l0 k i l sel win) (Ev.step (f := fun _ => some true) (fun k => by simp only [spec_SideOk.l0]; rw [if_neg (by omega)]) (Ev.now true)) ?_
        intro i k hi
        simp only [spec_SideOk.l0, in_spec, Option.bind_some]
        rw [if_pos (by omega), if_pos (by omega), wr_succ hi (by omega)]
        unfold sdP
        rw [and3_ite]
      · rw [decide_eq_false h2, Bool.and_false]
        exact Ev.step (f := fun _ => some false) (fun k => by simp [spec_SideOk.j0]) (Ev.now false)
    · rw [decide_eq_false h1, Bool.false_and, Bool.and_false]
      refine Ev.neg (by decide) ?_
      exact Ev.step (f := fun _ => some false) (fun k => by simp [spec_SideOk.j0]) (Ev.now false)
theorem sideOk_impl (l : List S71) (hl : l.length ≤ 1048576) (sel win : Int) : Ev (fun k => impl_SideOk.f k l sel win) (sideOk l sel win) := by
  unfold impl_SideOk.f sideOk
  refine ev_all1 (F := fun k i => impl_SideOk.l0 k l (l.length : Int) i l sel win) (Ev.step (f := fun _ => some (decide (l.length ≤ 3) && (decide (0 ≤ sel ∧ sel ≤ 2) && decide (0 ≤ win ∧ win ≤ 1000)))) (fun k => ?_) (Ev.now _)) ?_
  · simp only [impl_SideOk.l0, in_impl, Option.bind_some]
    rw [if_neg (by omega)]
    by_cases h : l.length ≤ 3
    · rw [if_pos (show (l.length : Int) ≤ 3 by omega), decide_eq_true h, Bool.true_and]
      by_cases h1 : 0 ≤ sel ∧ sel ≤ 2
      · rw [decide_eq_true h1, if_pos rfl, Bool.true_and]
      · rw [decide_eq_false h1, if_neg (by decide), Bool.false_and]
    · rw [if_neg (show ¬ (l.length : Int) ≤ 3 by omega), decide_eq_false h, Bool.false_and]
  · intro i k hi
    simp only [impl_SideOk.l0, in_impl, Option.bind_some]
    rw [if_pos (by omega), if_pos (by omega), if_pos (by omega), wr_succ hi (by omega)]
    unfold sdP
    rw [and3_ite]
theorem sideOk_facts {l : List S71} {sel win : Int} (h : sideOk l sel win = true) : l.length ≤ 3 ∧ (0 ≤ sel ∧ sel ≤ 2) ∧ (0 ≤ win ∧ win ≤ 1000) ∧ ∀ i : Nat, i < l.length → (0 ≤ (rd_T71 l i).f0 ∧ (rd_T71 l i).f0 ≤ 1) ∧ (1 ≤ (rd_T71 l i).f1 ∧ (rd_T71 l i).f1 ≤ 1000) ∧ (1 ≤ (rd_T71 l i).f2 ∧ (rd_T71 l i).f2 ≤ 1000) := by
  unfold sideOk at h
  rw [Bool.and_eq_true, Bool.and_eq_true, Bool.and_eq_true, List.all_eq_true] at h
  refine ⟨of_decide_eq_true h.2.1, of_decide_eq_true h.2.2.1, of_decide_eq_true h.2.2.2, fun i hi => ?_⟩
  have := h.1 i (by rw [List.mem_range'_1]; omega)
  unfold sdP at this
  rw [Bool.and_eq_true, Bool.and_eq_true] at this
  exact ⟨of_decide_eq_true this.1, of_decide_eq_true this.2.1, of_decide_eq_true this.2.2⟩
end Go.Proofs.Ytblfoelddakelaa.Base
/- BehaveOk of the program and of the reference is one plain test.
   Conditions: none. -/
namespace Go.Proofs.Ytblfoelddakelaa.Base
open Go.RowKit Go.Proofs.YtblfoelddakelaaW.PrintWords Go.Proofs.YtblfoelddakelaaW.PrintMore Go.Proofs.Ytblfoelddakelaa.H
def behaveOk (ul : List S71) (us uw : Int) (dl : List S71) (ds dw : Int) (mn_ mx_ : Int) : Bool := sideOk ul us uw && (sideOk dl ds dw && decide (0 ≤ mn_ ∧ mn_ ≤ mx_ ∧ mx_ ≤ 1000))
theorem behaveOk_spec (ul : List S71) (us uw : Int) (dl : List S71) (ds dw : Int) (m n : Int) : Ev (fun k => spec_BehaveOk.f k ul us uw dl ds dw m n) (behaveOk ul us uw dl ds dw m n) := by
  unfold spec_BehaveOk.f behaveOk
  refine Ev.bind (sideOk_spec ul us uw) ?_
  cases sideOk ul us uw with
  | false => exact Ev.neg (by decide) (Ev.now _)
  | true =>
    refine Ev.pos rfl (Ev.bind (sideOk_spec dl ds dw) ?_)
    cases sideOk dl ds dw with
    | false => exact Ev.neg (by decide) (Ev.now _)
    | true =>
      refine Ev.pos rfl ?_
      rw [in_spec, in_spec]
      refine Ev.bind0 rfl ?_
      by_cases h : 0 ≤ n ∧ n ≤ 1000
      · refine Ev.pos (decide_eq_true h) ?_
        have e : (decide (0 ≤ m ∧ m ≤ n)) = (true && (true && decide (0 ≤ m ∧ m ≤ n ∧ n ≤ 1000))) := by rw [Bool.true_and, Bool.true_and]; exact decide_eq_decide.2 (by omega)
        rw [← e]
        exact Ev.now _
      · rw [decide_eq_false (show ¬ (0 ≤ m ∧ m ≤ n ∧ n ≤ 1000) by omega)]
        exact Ev.neg (by simpa using h) (Ev.now _)
theorem behaveOk_impl (ul : List S71) (hu : ul.length ≤ 1048576) (us uw : Int) (dl : List S71) (hd : dl.length ≤ 1048576) (ds dw : Int) (m n : Int) : Ev (fun k => impl_BehaveOk.f k ul us uw dl ds dw m n) (behaveOk ul us uw dl ds dw m n) := by
  unfold impl_BehaveOk.f behaveOk
  refine Ev.bind (sideOk_impl ul hu us uw) ?_
  cases sideOk ul us uw with
  | false => exact Ev.neg (by decide) (Ev.now _)
  | true =>
    refine Ev.pos rfl (Ev.bind (sideOk_impl dl hd ds dw) ?_)
    cases sideOk dl ds dw with
    | false => exact Ev.neg (by decide) (Ev.now _)
    | true =>
      refine Ev.pos rfl ?_
      by_cases h : m ≥ 0
      · refine Ev.pos h ?_
        by_cases h1 : m ≤ n
        · refine Ev.pos h1 ?_
          have e : (decide (n ≤ 1000)) = (true && (true && decide (0 ≤ m ∧ m ≤ n ∧ n ≤ 1000))) := by rw [Bool.true_and, Bool.true_and]; exact decide_eq_decide.2 (by omega)
          rw [← e]
          exact Ev.now _
        · rw [decide_eq_false (show ¬ (0 ≤ m ∧ m ≤ n ∧ n ≤ 1000) by omega)]
          exact Ev.neg h1 (Ev.now _)
      · rw [decide_eq_false (show ¬ (0 ≤ m ∧ m ≤ n ∧ n ≤ 1000) by omega)]
        exact Ev.neg h (Ev.now _)
theorem behaveOk_facts {ul : List S71} {us uw : Int} {dl : List S71} {ds dw m n : Int} (h : behaveOk ul us uw dl ds dw m n = true) : sideOk ul us uw = true ∧ sideOk dl ds dw = true ∧ 0 ≤ m ∧ m ≤ n ∧ n ≤ 1000 := by
  unfold behaveOk at h
  rw [Bool.and_eq_true, Bool.and_eq_true] at h
  exact ⟨h.1, h.2.1, of_decide_eq_true h.2.2⟩
end Go.Proofs.Ytblfoelddakelaa.Base
/- SetupOk of the program and of the reference is one plain test.
   Conditions: none. -/
namespace Go.Proofs.Ytblfoelddakelaa.Base
open Go.RowKit Go.Proofs.YtblfoelddakelaaW.PrintWords Go.Proofs.YtblfoelddakelaaW.PrintMore Go.Proofs.YtblfoelddakelaaW.PrintLast Go.Proofs.Ytblfoelddakelaa.H

def nmP (t : ByteArray) (i : Nat) : Bool := (decide (97 ≤ bt t i) && decide (bt t i ≤ 122)) || (decide (48 ≤ bt t i) && decide (bt t i ≤ 57))
def nameOk (t : ByteArray) : Bool := (List.range' 0 t.size).all (nmP t) && decide (1 ≤ (t.size : Int) ∧ (t.size : Int) ≤ 12)
theorem nm_ite {α : Type} (b : Int) (x y : α) : (if b < 97 then (if b < 48 then y else if b > 57 then y else x) else if b > 122 then (if b < 48 then y else if b > 57 then y else x) else x) = if ((decide (97 ≤ b) && decide (b ≤ 122)) || (decide (48 ≤ b) && decide (b ≤ 57))) = true then x else y := by
  simp only [Bool.or_eq_true, Bool.and_eq_true, decide_eq_true_eq]
  by_cases h1 : b < 97
  · rw [if_pos h1]
    by_cases h2 : b < 48
    · rw [if_pos h2, if_neg (by omega)]
    · rw [if_neg h2]
      by_cases h3 : b > 57
      · rw [if_pos h3, if_neg (by omega)]
      · rw [if_neg h3, if_pos (by omega)]
  · rw [if_neg h1]
    by_cases h4 : b > 122
    · rw [if_pos h4, if_neg (show ¬ b < 48 by omega), if_pos (show b > 57 by omega), if_neg (by omega)]
    · rw [if_neg h4, if_pos (by omega)]
theorem wr_succ' {i n : Nat} (h : i < n) (hn : n ≤ 9223372036854775807) : wrap64 ((i : Int) + 1) = ((i + 1 : Nat) : Int) := by
  unfold wrap64; omega
theorem nameOk_impl (t : ByteArray) (ht : t.size ≤ 9223372036854775807) : Ev (fun k => impl_NameOk.f k t) (nameOk t) := by
  unfold impl_NameOk.f nameOk
  refine ev_all1 (F := fun k i => impl_NameOk.l0 k t (t.size : Int) i) (Ev.step (f := fun _ => some (decide (1 ≤ (t.size : Int) ∧ (t.size : Int) ≤ 12))) (fun k => ?_) (Ev.now _)) ?_
  · simp only [impl_NameOk.l0, in_impl, Option.bind_some]
    rw [if_neg (by omega)]
  · intro i k hi
    simp only [impl_NameOk.l0]
    rw [if_pos (by omega), if_pos (by omega), if_pos (by omega), wr_succ' hi ht, nm_ite]
    rfl
theorem nameOk_spec (t : ByteArray) (ht : t.size ≤ 9223372036854775807) : Ev (fun k => spec_NameOk.f k t) (nameOk t) := by
  unfold spec_NameOk.f nameOk
  rw [in_spec]
  refine Ev.bind0 rfl ?_
  by_cases h : 1 ≤ (t.size : Int) ∧ (t.size : Int) ≤ 12
  · rw [decide_eq_true h]
    refine Ev.pos rfl ?_
    refine ev_all1 (F := fun k i => spec_NameOk.l0 k t i) (Ev.step (f := fun _ => some true) (fun k => by simp only [spec_NameOk.l0]; rw [if_neg (by omega)]) (Ev.now true)) ?_
    intro i k hi
    simp only [spec_NameOk.l0]
    rw [if_pos (by omega), if_pos (by omega), wr_succ' hi ht, nm_ite]
    rfl
  · rw [decide_eq_false h, Bool.and_false]
    exact Ev.neg (by decide) (Ev.now _)

def goalOk (g : S49) : Bool := nameOk g.f0 && (decide (1 ≤ g.f1 ∧ g.f1 ≤ 1000000) && decide (0 ≤ g.f2 ∧ g.f2 ≤ 1000))
theorem goalOk_impl (g : S49) (hg : g.f0.size ≤ 9223372036854775807) : Ev (fun k => impl_GoalOk.f k g.f0 g.f1 g.f2) (goalOk g) := by
  unfold impl_GoalOk.f goalOk
  refine Ev.bind (nameOk_impl _ hg) ?_
  cases nameOk g.f0 with
  | false => exact Ev.neg (by decide) (Ev.now _)
  | true =>
    rw [in_impl, in_impl, Bool.true_and]
    refine Ev.pos rfl (Ev.bind0 rfl ?_)
    cases decide (1 ≤ g.f1 ∧ g.f1 ≤ 1000000) with
    | false => exact Ev.neg (by decide) (Ev.now _)
    | true => exact Ev.pos rfl (Ev.bind0 rfl (Ev.now _))
theorem goalOk_spec (g : S49) (hg : g.f0.size ≤ 9223372036854775807) : Ev (fun k => spec_GoalOk.f k g.f0 g.f1 g.f2) (goalOk g) := by
  unfold spec_GoalOk.f goalOk
  refine Ev.bind (nameOk_spec _ hg) ?_
  cases nameOk g.f0 with
  | false => exact Ev.neg (by decide) (Ev.now _)
  | true =>
    rw [in_spec, in_spec, Bool.true_and]
    refine Ev.pos rfl (Ev.bind0 rfl ?_)
    cases decide (1 ≤ g.f1 ∧ g.f1 ≤ 1000000) with
    | false => exact Ev.neg (by decide) (Ev.now _)
    | true => exact Ev.pos rfl (Ev.bind0 rfl (Ev.now _))

def rulesOk (d f w : Int) : Bool := decide (0 ≤ d ∧ d ≤ 1000) && (decide (0 ≤ f ∧ f ≤ 1000) && decide (0 ≤ w ∧ w ≤ 1000))
theorem rulesOk_impl (d f w : Int) : impl_RulesOk.f d f w = some (rulesOk d f w) := by
  unfold impl_RulesOk.f rulesOk
  rw [in_impl, in_impl, in_impl, Option.bind_some, Option.bind_some, Option.bind_some]
  cases decide (0 ≤ d ∧ d ≤ 1000) <;> cases decide (0 ≤ f ∧ f ≤ 1000) <;> rfl
theorem rulesOk_spec (d f w : Int) : spec_RulesOk.f d f w = some (rulesOk d f w) := by
  unfold spec_RulesOk.f rulesOk
  rw [in_spec, in_spec, in_spec, Option.bind_some, Option.bind_some, Option.bind_some]
  cases decide (0 ≤ d ∧ d ≤ 1000) <;> cases decide (0 ≤ f ∧ f ≤ 1000) <;> rfl

/-- The goal at i is well, and no goal ahead of it has its metric. -/
def glQ (l : List S49) (i k : Nat) : Bool := !((rd_T49 l k).f0.toList == (rd_T49 l i).f0.toList)
def glP (l : List S49) (i : Nat) : Bool := goalOk (rd_T49 l i) && (List.range' 0 i).all (glQ l i)
def setupOk (d f w : Int) (l : List S49) (ul : List S71) (us uw : Int) (dl : List S71) (ds dw m n : Int) : Bool :=
  (List.range' 0 l.length).all (glP l) && (rulesOk d f w && (behaveOk ul us uw dl ds dw m n && decide (1 ≤ (l.length : Int) ∧ (l.length : Int) ≤ 3)))

theorem take_any (l : List S49) (p : S49 → Bool) : ∀ i : Nat, i ≤ l.length → (l.take i).any p = !((List.range' 0 i).all fun k => !(p (rd_T49 l k))) := by
  intro i
  induction i with
  | zero => intro _; rfl
  | succ i ih =>
    intro hi
    have e : l.take (i + 1) = l.take i ++ [rd_T49 l i] := by
      rw [List.take_add_one]
      simp [rd_T49, List.getD_eq_getElem?_getD, List.getElem?_eq_getElem (show i < l.length by omega)]
    rw [e, List.any_append, ih (by omega), List.range'_concat, List.all_append]
    simp [Bool.not_and]

theorem setupOk_impl (d f w : Int) (l : List S49) (hl : l.length ≤ 1048576) (hs : ∀ x ∈ l, x.f0.size ≤ 9223372036854775807) (ul : List S71) (hu : ul.length ≤ 1048576) (us uw : Int) (dl : List S71) (hd : dl.length ≤ 1048576) (ds dw m n : Int) :
    Ev (fun k => impl_SetupOk.f k d f w l ul us uw dl ds dw m n) (setupOk d f w l ul us uw dl ds dw m n) := by
  unfold impl_SetupOk.f setupOk
  refine ev_all (F := fun k i => impl_SetupOk.l0 k l (l.length : Int) i d f w l ul us uw dl ds dw m n) (n := l.length) (p := glP l) (q := rulesOk d f w && (behaveOk ul us uw dl ds dw m n && decide (1 ≤ (l.length : Int) ∧ (l.length : Int) ≤ 3))) ?_ ?_ ?_ l.length 0 (by omega)
  · refine Ev.step (fun k => rfl) (Ev.neg (by omega) ?_)
    rw [rulesOk_impl, in_impl]
    refine Ev.bind0 rfl ?_
    cases rulesOk d f w with
    | false => exact Ev.neg (by decide) (Ev.now _)
    | true =>
      refine Ev.pos rfl (Ev.bind (behaveOk_impl ul hu us uw dl hd ds dw m n) ?_)
      cases behaveOk ul us uw dl ds dw m n with
      | false => exact Ev.neg (by decide) (Ev.now _)
      | true => exact Ev.pos rfl (Ev.bind0 rfl (Ev.now _))
  · intro i hi hp
    have hm : (rd_T49 l i).f0.size ≤ 9223372036854775807 := hs _ (rd_mem_T49 l i hi)
    refine Ev.step (fun k => rfl) (Ev.pos (by omega) (Ev.pos (by omega) (Ev.pos (by omega) (Ev.bind (goalOk_impl _ hm) ?_))))
    unfold glP at hp
    cases hg : goalOk (rd_T49 l i) with
    | false => exact Ev.neg (by decide) (Ev.now _)
    | true =>
      rw [hg, Bool.true_and] at hp
      refine Ev.pos rfl (Ev.pos (by omega) (Ev.bind0 (show impl_hasMetric.f (l.take ((i : Int)).toNat) _ _ _ = some true from ?_) (Ev.pos rfl (Ev.now _))))
      unfold impl_hasMetric.f
      rw [Int.toNat_natCast, take_any l _ i (by omega)]
      have : (List.range' 0 i).all (fun k => !((rd_T49 l k).f0.toList == (rd_T49 l i).f0.toList)) = false := hp
      rw [this]; rfl
  · intro i r hi hp h
    have hm : (rd_T49 l i).f0.size ≤ 9223372036854775807 := hs _ (rd_mem_T49 l i hi)
    refine Ev.step (fun k => rfl) (Ev.pos (by omega) (Ev.pos (by omega) (Ev.pos (by omega) (Ev.bind (goalOk_impl _ hm) ?_))))
    unfold glP at hp
    rw [Bool.and_eq_true] at hp
    rw [hp.1]
    refine Ev.pos rfl (Ev.pos (by omega) (Ev.bind0 (show impl_hasMetric.f (l.take ((i : Int)).toNat) _ _ _ = some false from ?_) (Ev.neg (by decide) ?_)))
    · unfold impl_hasMetric.f
      rw [Int.toNat_natCast, take_any l _ i (by omega)]
      have : (List.range' 0 i).all (fun k => !((rd_T49 l k).f0.toList == (rd_T49 l i).f0.toList)) = true := hp.2
      rw [this]; rfl
    · rw [wr_succ hi (by omega)]
      exact h

theorem setup_loop (d f w : Int) (l : List S49) (hl : l.length ≤ 1048576) (hs : ∀ x ∈ l, x.f0.size ≤ 9223372036854775807) (ul : List S71) (us uw : Int) (dl : List S71) (ds dw m n : Int) :
    ∀ D i : Nat, i + D = l.length → Ev (fun k => spec_SetupOk.l0 k (i : Int) d f w l ul us uw dl ds dw m n) ((List.range' i D).all (glP l)) := by
  intro D
  induction D with
  | zero => intro i hi; exact Ev.step (fun k => rfl) (Ev.neg (by omega) (Ev.now _))
  | succ D ih =>
    intro i hi
    have hil : i < l.length := by omega
    have hm : (rd_T49 l i).f0.size ≤ 9223372036854775807 := hs _ (rd_mem_T49 l i hil)
    have h := ih (i + 1) (by omega)
    rw [List.range'_succ, List.all_cons]
    refine Ev.step (fun k => rfl) (Ev.pos (by omega) (Ev.pos (by omega) (Ev.bind (goalOk_spec _ hm) ?_)))
    unfold glP
    cases hg : goalOk (rd_T49 l i) with
    | false => exact Ev.neg (by decide) (Ev.now _)
    | true =>
      rw [Bool.true_and]
      refine Ev.pos rfl ?_
      refine ev_all (F := fun k j => spec_SetupOk.l1 k (i : Int) j d f w l ul us uw dl ds dw m n) (n := i) (p := glQ l i) ?_ ?_ ?_ i 0 (by omega)
      · refine Ev.step (fun k => rfl) (Ev.neg (by omega) ?_)
        rw [wr_succ hil (by omega)]
        exact h
      · intro j hj hq
        unfold glQ at hq
        refine Ev.step (fun k => rfl) (Ev.pos (by omega) (Ev.pos (by omega) (Ev.pos (by omega) (Ev.pos (by omega) (Ev.pos (by omega) (Ev.pos ?_ (Ev.now _)))))))
        simpa using hq
      · intro j r hj hq h'
        unfold glQ at hq
        refine Ev.step (fun k => rfl) (Ev.pos (by omega) (Ev.pos (by omega) (Ev.pos (by omega) (Ev.pos (by omega) (Ev.pos (by omega) (Ev.neg ?_ ?_))))))
        · simpa using hq
        · rw [wr_succ (show j < l.length by omega) (by omega)]
          exact h'
theorem setupOk_spec (d f w : Int) (l : List S49) (hl : l.length ≤ 1048576) (hs : ∀ x ∈ l, x.f0.size ≤ 9223372036854775807) (ul : List S71) (us uw : Int) (dl : List S71) (ds dw m n : Int) :
    Ev (fun k => spec_SetupOk.f k d f w l ul us uw dl ds dw m n) (setupOk d f w l ul us uw dl ds dw m n) := by
  unfold spec_SetupOk.f setupOk
  rw [rulesOk_spec, in_spec]
  refine Ev.bind0 rfl ?_
  cases rulesOk d f w with
  | false =>
    rw [Bool.false_and, Bool.and_false]
    exact Ev.neg (by decide) (Ev.step (f := fun _ => some false) (fun k => by simp [spec_SetupOk.j0]) (Ev.now _))
  | true =>
    refine Ev.pos rfl (Ev.bind (behaveOk_spec ul us uw dl ds dw m n) ?_)
    cases behaveOk ul us uw dl ds dw m n with
    | false =>
      rw [Bool.false_and, Bool.and_false, Bool.and_false]
      exact Ev.neg (by decide) (Ev.step (f := fun _ => some false) (fun k => by simp [spec_SetupOk.j0]) (Ev.now _))
    | true =>
      refine Ev.pos rfl (Ev.bind0 rfl ?_)
      cases decide (1 ≤ (l.length : Int) ∧ (l.length : Int) ≤ 3) with
      | false =>
        rw [Bool.true_and, Bool.true_and, Bool.and_false]
        exact Ev.step (f := fun _ => some false) (fun k => by simp [spec_SetupOk.j0]) (Ev.now _)
      | true =>
        rw [Bool.true_and, Bool.true_and, Bool.and_true]
        exact Ev.step (f := fun k => spec_SetupOk.l0 k 0 d f w l ul us uw dl ds dw m n) (fun k => by simp [spec_SetupOk.j0]) (setup_loop d f w l hl hs ul us uw dl ds dw m n l.length 0 (by omega))
end Go.Proofs.Ytblfoelddakelaa.Base
/- NewHerd of the program and of the reference give the same Herd; a Herd of empty lists equals itself.
   Conditions: none. -/
namespace Go.Proofs.Ytblfoelddakelaa.Base
open Go.RowKit Go.Proofs.YtblfoelddakelaaW.PrintWords Go.Proofs.YtblfoelddakelaaW.PrintMore Go.Proofs.YtblfoelddakelaaW.PrintLast Go.Proofs.Ytblfoelddakelaa.H
theorem take_snoc {α : Type} (l : List α) (d : α) (i : Nat) (h : i < l.length) : l.take i ++ [l.getD i d] = l.take (i + 1) := by
  rw [List.take_add_one]
  simp [List.getD_eq_getElem?_getD, List.getElem?_eq_getElem h]
theorem l08_side (l : List S71) (hl : l.length ≤ 1048576) (a b c d : Int) : ∀ D i : Nat, i + D = l.length → Ev (fun k => spec_l08Side.l0 k (i : Int) l a b (l.take i) c d) (l, c, d) := by
  intro D
  induction D with
  | zero =>
    intro i hi
    obtain rfl : i = l.length := by omega
    rw [List.take_length]
    exact Ev.step (fun k => rfl) (Ev.neg (by omega) (Ev.now _))
  | succ D ih =>
    intro i hi
    have h := ih (i + 1) (by omega)
    refine Ev.step (fun k => rfl) (Ev.pos (by omega) (Ev.pos (by omega) (Ev.pos (by rw [List.length_take]; omega) ?_)))
    rw [wr_succ (show i < l.length by omega) (by omega)]
    have e : l.take i ++ [(⟨(rd_T71 l i).f0, (rd_T71 l i).f1, (rd_T71 l i).f2⟩ : S71)] = l.take (i + 1) := take_snoc l z71 i (by omega)
    rw [e]
    exact h
theorem l08_setup (d f w : Int) (g : List S49) (hg : g.length ≤ 1048576) (l : List S71) (a b : Int) (l' : List S71) (a' b' m n : Int) (m1 m2 m3 a1 b1 a1' b1' mm nn : Int) (u u' : List S71) : ∀ D i : Nat, i + D = g.length →
    Ev (fun k => spec_l08Setup.l0 k (i : Int) d f w g l a b l' a' b' m n m1 m2 m3 (g.take i) u a1 b1 u' a1' b1' mm nn) (m1, m2, m3, g, u, a1, b1, u', a1', b1', mm, nn) := by
  intro D
  induction D with
  | zero =>
    intro i hi
    obtain rfl : i = g.length := by omega
    rw [List.take_length]
    exact Ev.step (fun k => rfl) (Ev.neg (by omega) (Ev.now _))
  | succ D ih =>
    intro i hi
    have h := ih (i + 1) (by omega)
    refine Ev.step (fun k => rfl) (Ev.pos (by omega) (Ev.pos (by omega) (Ev.pos (by rw [List.length_take]; omega) ?_)))
    rw [wr_succ (show i < g.length by omega) (by omega)]
    have e : g.take i ++ [(⟨(rd_T49 g i).f0, (rd_T49 g i).f1, (rd_T49 g i).f2⟩ : S49)] = g.take (i + 1) := take_snoc g z49 i (by omega)
    rw [e]
    exact h
theorem ev_l08Setup (d f w : Int) (g : List S49) (hg : g.length ≤ 1048576) (l : List S71) (hl : l.length ≤ 1048576) (a b : Int) (l' : List S71) (hl' : l'.length ≤ 1048576) (a' b' m n : Int) :
    Ev (fun k => spec_l08Setup.f k d f w g l a b l' a' b' m n) (d, f, w, g, l, a, b, l', a', b', m, n) := by
  unfold spec_l08Setup.f spec_l08Side.f
  exact Ev.bind (l08_side l hl a b a b l.length 0 (by omega)) (Ev.bind (l08_side l' hl' a' b' a' b' l'.length 0 (by omega)) (l08_setup d f w g hg l a b l' a' b' m n d f w a b a' b' m n l l' g.length 0 (by omega)))
theorem ownSetup_eq (d f w : Int) (g : List S49) (hg : g.length ≤ 1048576) (l : List S71) (hl : l.length ≤ 1048576) (a b : Int) (l' : List S71) (hl' : l'.length ≤ 1048576) (a' b' m n : Int) :
    impl_ownSetup.f d f w g l a b l' a' b' m n = some (d, f, w, g, l, a, b, l', a', b', m, n) := by
  unfold impl_ownSetup.f impl_ownSide.f impl_Goal.f impl_Policy.f
  simp only [Option.bind_some, List.length_nil, Nat.zero_add, List.nil_append]
  rw [if_pos (by omega), if_pos (by omega), if_pos (by omega)]
  rfl
abbrev HerdT := Int × Int × Int × (List S49) × (List S71) × Int × Int × (List S71) × Int × Int × Int × Int × Int × Int × Int × (List S109) × (List S113) × (List S116) × (List S119) × Int × Int × Bool
def newHerd (d f w : Int) (g : List S49) (l : List S71) (a b : Int) (l' : List S71) (a' b' m n c : Int) : HerdT :=
  if setupOk d f w g l a b l' a' b' m n && decide (0 ≤ c ∧ c ≤ 1000) then (d, f, w, g, l, a, b, l', a', b', m, n, 0, c, 0, [], [], [], [], 0, 0, true) else (0, 0, 0, [], [], 0, 0, [], 0, 0, 0, 0, 0, 0, 0, [], [], [], [], 0, 0, false)
theorem newHerd_spec (d f w : Int) (g : List S49) (hg : g.length ≤ 1048576) (hs : ∀ x ∈ g, x.f0.size ≤ 9223372036854775807) (l : List S71) (hl : l.length ≤ 1048576) (a b : Int) (l' : List S71) (hl' : l'.length ≤ 1048576) (a' b' m n c : Int) :
    Ev (fun k => spec_NewHerd.f k d f w g l a b l' a' b' m n c) (newHerd d f w g l a b l' a' b' m n c) := by
  unfold spec_NewHerd.f newHerd
  refine Ev.bind (setupOk_spec d f w g hg hs l a b l' a' b' m n) ?_
  cases setupOk d f w g l a b l' a' b' m n with
  | false => exact Ev.neg (by decide) (Ev.now _)
  | true =>
    refine Ev.pos rfl (Ev.bind0 (show spec_l05Count.f c = some (decide (0 ≤ c ∧ c ≤ 1000)) by unfold spec_l05Count.f; rw [in_spec]; rfl) ?_)
    cases decide (0 ≤ c ∧ c ≤ 1000) with
    | false => exact Ev.neg (by decide) (Ev.now _)
    | true => exact Ev.pos rfl (Ev.bind (ev_l08Setup d f w g hg l hl a b l' hl' a' b' m n) (Ev.now _))
theorem newHerd_impl (d f w : Int) (g : List S49) (hg : g.length ≤ 1048576) (hs : ∀ x ∈ g, x.f0.size ≤ 9223372036854775807) (l : List S71) (hl : l.length ≤ 1048576) (a b : Int) (l' : List S71) (hl' : l'.length ≤ 1048576) (a' b' m n c : Int) :
    Ev (fun k => impl_NewHerd.f k d f w g l a b l' a' b' m n c) (newHerd d f w g l a b l' a' b' m n c) := by
  unfold impl_NewHerd.f newHerd
  refine Ev.bind (setupOk_impl d f w g hg hs l hl a b l' hl' a' b' m n) ?_
  cases setupOk d f w g l a b l' a' b' m n with
  | false => exact Ev.neg (by decide) (Ev.now _)
  | true =>
    refine Ev.pos rfl (Ev.bind0 (show impl_isCount.f c = some (decide (0 ≤ c ∧ c ≤ 1000)) by unfold impl_isCount.f; rw [in_impl]; rfl) ?_)
    cases decide (0 ≤ c ∧ c ≤ 1000) with
    | false => exact Ev.neg (by decide) (Ev.now _)
    | true => exact Ev.pos rfl (Ev.bind0 (ownSetup_eq d f w g hg l hl a b l' hl' a' b' m n) (Ev.now _))
theorem ev_eqHerd (d f w : Int) (g : List S49) (hg : g.length ≤ 1048576) (l : List S71) (hl : l.length ≤ 1048576) (a b : Int) (l' : List S71) (hl' : l'.length ≤ 1048576) (a' b' m n p q r s t : Int) :
    Ev (fun k => laws_eqHerd.f k d f w g l a b l' a' b' m n p q r [] [] [] [] s t d f w g l a b l' a' b' m n p q r [] [] [] [] s t) true := by
  unfold laws_eqHerd.f
  exact Ev.bind (ev_eqSetup d f w g hg l hl a b l' hl' a' b' m n) (Ev.pos rfl (Ev.pos rfl (Ev.pos rfl (Ev.pos rfl (Ev.bind0 rfl (Ev.pos rfl (Ev.bind0 rfl (Ev.pos rfl (Ev.bind0 rfl (Ev.pos rfl (Ev.bind0 rfl (Ev.pos rfl (Ev.pos rfl (Ev.pos rfl (Ev.now _)))))))))))))))
end Go.Proofs.Ytblfoelddakelaa.Base
/- A list of goals that was marked holds the marks.
   Conditions: none. -/
namespace Go.Proofs.Ytblfoelddakelaa.Base
open Go.RowKit Go.Proofs.YtblfoelddakelaaW.PrintWords Go.Proofs.YtblfoelddakelaaW.PrintMore Go.Proofs.YtblfoelddakelaaW.PrintLast Go.Proofs.Ytblfoelddakelaa.H
theorem mtext_loop : ∀ (n : Nat) (x : Int) (t : ByteArray), x ≤ n → n ≤ 4611686018427387904 → t.size + n ≤ 4611686018427387904 → ∃ r, Ev (fun k => laws_markText.l0 k x t) r := by
  intro n
  induction n with
  | zero => intro x t hx _ ht; exact ⟨_, Ev.step (fun k => rfl) (Ev.neg (by omega) (Ev.pos (by omega) (Ev.now _)))⟩
  | succ n ih =>
    intro x t hx hn ht
    by_cases h : x > 0
    · have e : Int.tdiv x 10 = x / 10 := Int.tdiv_eq_ediv_of_nonneg (by omega)
      have w : wrap64 (Int.tdiv x 10) = x / 10 := by rw [e]; exact wr_id (by omega) (by omega)
      have z : ∀ a : Int, (strOfNums [a] ++ t).size = 1 + t.size := fun a => by rw [ByteArray.size_append]; rfl
      obtain ⟨r, hr⟩ := ih (x / 10) (strOfNums [(wrap64 (48 + (Int.tmod x 10))) % 256] ++ t) (by omega) (by omega) (by rw [z]; omega)
      refine ⟨r, Ev.step (fun k => rfl) (Ev.pos h (Ev.bind0 rfl (Ev.pos (show 1 + t.size ≤ _ by omega) ?_)))⟩
      rw [w]
      exact hr
    · exact ⟨_, Ev.step (fun k => rfl) (Ev.neg h (Ev.pos (by omega) (Ev.now _)))⟩
theorem mtext_ex (x : Int) (hx : x ≤ 4611686018427387904) : ∃ r, Ev (fun k => laws_markText.f k x) r := by
  unfold laws_markText.f
  by_cases h : x ≤ 0
  · exact ⟨_, Ev.pos h (Ev.now _)⟩
  · obtain ⟨r, hr⟩ := mtext_loop x.toNat x ⟨#[]⟩ (by omega) (by omega) (by show 0 + _ ≤ _; omega)
    exact ⟨r, Ev.neg h hr⟩
open Classical in
noncomputable def mtext (x : Int) : ByteArray := if h : ∃ r, Ev (fun k => laws_markText.f k x) r then h.choose else ⟨#[]⟩
theorem ev_mtext (x : Int) (hx : x ≤ 4611686018427387904) : Ev (fun k => laws_markText.f k x) (mtext x) := by
  have h := mtext_ex x hx
  unfold mtext
  rw [dif_pos h]
  exact h.choose_spec
noncomputable def goalMark (m : Int) (j : Nat) : S49 := ⟨mtext (m + 3 * j), m + 3 * j + 1, m + 3 * j + 2⟩
theorem ev_markGoalS (l : List S49) (hl : l.length ≤ 1048576) (m : Int) (h0 : 0 ≤ m) (hm : m ≤ 1099511627776) : Ev (fun k => laws_markGoalS.f k l m) (m + 3 * l.length, (List.range l.length).map (goalMark m)) := by
  unfold laws_markGoalS.f
  have h := ev_fold (F := fun k s i => laws_markGoalS.l0 k s.2 s.1 i) (n := l.length) (st := fun s i => (s.1 + 3, s.2.set i (goalMark m i))) (out := fun s => s)
    (Inv := fun s i => s.1 = m + 3 * i ∧ s.2.length = l.length) ?_ ?_ l.length 0 (m, l) (by omega) ⟨by simp, rfl⟩
  · have key : ∀ d i (s : Int × List S49), i + d = l.length → s.1 = m + 3 * i → s.2.length = l.length → (∀ j, j < i → s.2[j]? = some (goalMark m j)) →
        (List.range' i d).foldl (fun s i => (s.1 + 3, s.2.set i (goalMark m i))) s = (m + 3 * l.length, (List.range l.length).map (goalMark m)) := by
      intro d
      induction d with
      | zero =>
        intro i s hi h1 h2 h3
        obtain rfl : i = l.length := by omega
        refine Prod.ext h1 (List.ext_getElem? fun j => ?_)
        by_cases hj : j < l.length
        · simpa [hj] using h3 j hj
        · show s.2[j]? = _
          rw [List.getElem?_eq_none (by omega)]; simp [hj]
      | succ d ih =>
        intro i s hi h1 h2 h3
        rw [List.range'_succ, List.foldl_cons]
        refine ih (i + 1) _ (by omega) (by show s.1 + 3 = _; rw [h1]; omega) (by show (s.2.set i _).length = _; rw [List.length_set]; exact h2) (fun j hj => ?_)
        show (s.2.set i _)[j]? = _
        by_cases hji : j = i
        · subst hji; rw [List.getElem?_set_self (by omega)]
        · rw [List.getElem?_set_ne (by omega)]; exact h3 j (by omega)
    rw [key l.length 0 (m, l) (by omega) (by simp) rfl (fun j hj => absurd hj (Nat.not_lt_zero _))] at h
    exact h
  · intro s ⟨_, h2⟩
    exact Ev.step (f := fun _ => some s) (fun k => by simp only [laws_markGoalS.l0]; rw [if_neg (by omega)]) (Ev.now s)
  · intro s i hi ⟨h1, h2⟩
    refine ⟨⟨by show s.1 + 3 = _; rw [h1]; omega, by rw [List.length_set]; exact h2⟩, fun r h => ?_⟩
    have w1 : wrap64 (s.1 + 1) = s.1 + 1 := wr_id (by omega) (by omega)
    have w2 : wrap64 (s.1 + 1 + 1) = s.1 + 2 := by rw [wr_id (by omega) (by omega)]; omega
    have w3 : wrap64 (s.1 + 2 + 1) = s.1 + 3 := by rw [wr_id (by omega) (by omega)]; omega
    have hi2 : i < s.2.length := by omega
    have e : goalMark m i = ⟨mtext s.1, s.1 + 1, s.1 + 2⟩ := by rw [h1]; rfl
    rw [e] at h
    refine Ev.step (fun k => rfl) (Ev.pos (by omega) (Ev.bind (ev_mtext s.1 (by omega)) (Ev.pos (by omega) (Ev.bind0 rfl (Ev.bind0 rfl ?_)))))
    rw [wr_succ hi (by omega)]
    simp only [w1, w2, w3, Int.toNat_natCast, rd_T49, List.set_set, List.getD_eq_getElem?_getD, List.getElem?_set_self hi2, Option.getD_some]
    exact h
theorem ev_heldGoalS (n : Nat) (hl : n ≤ 1048576) (m : Int) (h0 : 0 ≤ m) (hm : m ≤ 1099511627776) : Ev (fun k => laws_heldGoalS.f k ((List.range n).map (goalMark m)) m) (m + 3 * n) := by
  unfold laws_heldGoalS.f
  have h := ev_fold (F := fun k s i => laws_heldGoalS.l0 k ((List.range n).map (goalMark m)) s i) (n := n) (st := fun s i => s + 3) (out := fun s => s)
    (Inv := fun s i => s = m + 3 * i) ?_ ?_ n 0 m (by omega) (by simp)
  · have e := fold_inv (n := n) (st := fun (s : Int) (i : Nat) => s + 3) (Inv := fun s i => s = m + 3 * i) (fun s i _ h => by rw [h]; omega) n 0 m (by omega) (by simp)
    rw [e] at h
    exact h
  · intro s _
    exact Ev.step (f := fun _ => some s) (fun k => by simp only [laws_heldGoalS.l0]; rw [if_neg (by simp)]) (Ev.now s)
  · intro s i hi hI
    refine ⟨by rw [hI]; omega, fun r h => ?_⟩
    have w1 : wrap64 (s + 1) = s + 1 := wr_id (by omega) (by omega)
    have w2 : wrap64 (s + 1 + 1) = s + 2 := by rw [wr_id (by omega) (by omega)]; omega
    have w3 : wrap64 (s + 2 + 1) = s + 3 := by rw [wr_id (by omega) (by omega)]; omega
    have e : rd_T49 ((List.range n).map (goalMark m)) i = goalMark m i := by simp [rd_T49, List.getD_eq_getElem?_getD, hi]
    refine Ev.step (fun k => rfl) (Ev.pos (by simpa using hi) (Ev.pos (by omega) (Ev.bind (ev_mtext s (by omega)) ?_)))
    rw [e, w1, w2, w3, wr_succ hi (by omega)]
    exact Ev.pos (by rw [hI]; rfl) (Ev.pos (by rw [hI]; rfl) (Ev.pos (by rw [hI]; rfl) h))
end Go.Proofs.Ytblfoelddakelaa.Base
/- A list of policies that was marked holds the marks.
   Conditions: none. -/
namespace Go.Proofs.Ytblfoelddakelaa.Base
open Go.RowKit Go.Proofs.YtblfoelddakelaaW.PrintWords Go.Proofs.YtblfoelddakelaaW.PrintMore Go.Proofs.Ytblfoelddakelaa.H
def polMark (m : Int) (j : Nat) : S71 := ⟨m + 3 * j, m + 3 * j + 1, m + 3 * j + 2⟩
theorem ev_markPolicyS (l : List S71) (hl : l.length ≤ 1048576) (m : Int) (h0 : 0 ≤ m) (hm : m ≤ 1099511627776) : Ev (fun k => laws_markPolicyS.f k l m) (m + 3 * l.length, (List.range l.length).map (polMark m)) := by
  unfold laws_markPolicyS.f
  have h := ev_fold (F := fun k s i => laws_markPolicyS.l0 k s.2 s.1 i) (n := l.length) (st := fun s i => (s.1 + 3, s.2.set i (polMark m i))) (out := fun s => s)
    (Inv := fun s i => s.1 = m + 3 * i ∧ s.2.length = l.length) ?_ ?_ l.length 0 (m, l) (by omega) ⟨by simp, rfl⟩
  · have e := ev_fill (F := fun k s i => some s) (n := 0) (β := Int) (g := fun _ => 0) (fun s _ => Ev.now s) (fun s i r hi => absurd hi (Nat.not_lt_zero _)) [] rfl
    clear e
    have key : ∀ d i (s : Int × List S71), i + d = l.length → s.1 = m + 3 * i → s.2.length = l.length → (∀ j, j < i → s.2[j]? = some (polMark m j)) →
        (List.range' i d).foldl (fun s i => (s.1 + 3, s.2.set i (polMark m i))) s = (m + 3 * l.length, (List.range l.length).map (polMark m)) := by
      intro d
      induction d with
      | zero =>
        intro i s hi h1 h2 h3
        obtain rfl : i = l.length := by omega
        refine Prod.ext h1 (List.ext_getElem? fun j => ?_)
        by_cases hj : j < l.length
        · simpa [hj] using h3 j hj
        · show s.2[j]? = _
          rw [List.getElem?_eq_none (by omega)]; simp [hj]
      | succ d ih =>
        intro i s hi h1 h2 h3
        rw [List.range'_succ, List.foldl_cons]
        refine ih (i + 1) _ (by omega) (by show s.1 + 3 = _; rw [h1]; omega) (by show (s.2.set i _).length = _; rw [List.length_set]; exact h2) (fun j hj => ?_)
        show (s.2.set i _)[j]? = _
        by_cases hji : j = i
        · subst hji; rw [List.getElem?_set_self (by omega)]
        · rw [List.getElem?_set_ne (by omega)]; exact h3 j (by omega)
    rw [key l.length 0 (m, l) (by omega) (by simp) rfl (fun j hj => absurd hj (Nat.not_lt_zero _))] at h
    exact h
  · intro s ⟨_, h2⟩
    exact Ev.step (f := fun _ => some s) (fun k => by simp only [laws_markPolicyS.l0]; rw [if_neg (by omega)]) (Ev.now s)
  · intro s i hi ⟨h1, h2⟩
    refine ⟨⟨by show s.1 + 3 = _; rw [h1]; omega, by rw [List.length_set]; exact h2⟩, fun r h => Ev.step (fun k => ?_) h⟩
    have w1 : wrap64 (s.1 + 1) = s.1 + 1 := wr_id (by omega) (by omega)
    have w2 : wrap64 (s.1 + 1 + 1) = s.1 + 2 := by rw [wr_id (by omega) (by omega)]; omega
    have w3 : wrap64 (s.1 + 2 + 1) = s.1 + 3 := by rw [wr_id (by omega) (by omega)]; omega
    have hi2 : i < s.2.length := by omega
    simp only [laws_markPolicyS.l0, Option.bind_some, w1, w2, w3]
    rw [if_pos (by omega), if_pos (by omega), wr_succ hi (by omega)]
    congr 1
    simp only [Int.toNat_natCast, rd_T71, List.set_set, List.getD_eq_getElem?_getD, List.getElem?_set_self hi2, Option.getD_some, polMark, h1]
theorem ev_heldPolicyS (n : Nat) (hl : n ≤ 1048576) (m : Int) (h0 : 0 ≤ m) (hm : m ≤ 1099511627776) : Ev (fun k => laws_heldPolicyS.f k ((List.range n).map (polMark m)) m) (m + 3 * n) := by
  unfold laws_heldPolicyS.f
  have h := ev_fold (F := fun k s i => laws_heldPolicyS.l0 k ((List.range n).map (polMark m)) s i) (n := n) (st := fun s i => s + 3) (out := fun s => s)
    (Inv := fun s i => s = m + 3 * i) ?_ ?_ n 0 m (by omega) (by simp)
  · have e := fold_inv (n := n) (st := fun (s : Int) (i : Nat) => s + 3) (Inv := fun s i => s = m + 3 * i) (fun s i _ h => by rw [h]; omega) n 0 m (by omega) (by simp)
    rw [e] at h
    exact h
  · intro s _
    exact Ev.step (f := fun _ => some s) (fun k => by simp only [laws_heldPolicyS.l0]; rw [if_neg (by simp)]) (Ev.now s)
  · intro s i hi hI
    refine ⟨by rw [hI]; omega, fun r h => Ev.step (fun k => ?_) h⟩
    have w1 : wrap64 (s + 1) = s + 1 := wr_id (by omega) (by omega)
    have w2 : wrap64 (s + 1 + 1) = s + 2 := by rw [wr_id (by omega) (by omega)]; omega
    have w3 : wrap64 (s + 2 + 1) = s + 3 := by rw [wr_id (by omega) (by omega)]; omega
    have e : rd_T71 ((List.range n).map (polMark m)) i = polMark m i := by simp [rd_T71, List.getD_eq_getElem?_getD, hi]
    simp only [laws_heldPolicyS.l0, e, w1, w2, w3]
    rw [if_pos (by simpa using hi), if_pos (by omega), if_pos (by rw [hI]; rfl), if_pos (by rw [hI]; rfl), if_pos (by rw [hI]; rfl), wr_succ hi (by omega)]
end Go.Proofs.Ytblfoelddakelaa.Base
/- A Setup, or a Herd of empty lists, that was marked holds the marks.
   Conditions: none. -/
namespace Go.Proofs.Ytblfoelddakelaa.Base
open Go.RowKit Go.Proofs.YtblfoelddakelaaW.PrintWords Go.Proofs.YtblfoelddakelaaW.PrintMore Go.Proofs.YtblfoelddakelaaW.PrintLast Go.Proofs.Ytblfoelddakelaa.H
theorem ev_markSetup (d f w : Int) (g : List S49) (hg : g.length ≤ 1048576) (l : List S71) (hl : l.length ≤ 1048576) (a b : Int) (l' : List S71) (hl' : l'.length ≤ 1048576) (a' b' m n : Int) :
    Ev (fun k => laws_markSetup.f k d f w g l a b l' a' b' m n 1) (1 + 3 * (g.length : Int) + 3 * (l.length : Int) + 3 * (l'.length : Int), (List.range g.length).map (goalMark 1), (List.range l.length).map (polMark (1 + 3 * (g.length : Int))), (List.range l'.length).map (polMark (1 + 3 * (g.length : Int) + 3 * (l.length : Int)))) := by
  unfold laws_markSetup.f laws_markBehave.f laws_markSide.f
  exact Ev.bind (ev_markGoalS g hg 1 (by omega) (by omega)) (Ev.bind (Ev.bind (Ev.bind (ev_markPolicyS l hl _ (by omega) (by omega)) (Ev.now _)) (Ev.bind (Ev.bind (ev_markPolicyS l' hl' _ (by omega) (by omega)) (Ev.now _)) (Ev.now _))) (Ev.now _))
theorem ev_heldSetup (d f w : Int) (G L L' : Nat) (hg : G ≤ 1048576) (hl : L ≤ 1048576) (hl' : L' ≤ 1048576) (a b a' b' m n : Int) :
    Ev (fun k => laws_heldSetup.f k d f w ((List.range G).map (goalMark 1)) ((List.range L).map (polMark (1 + 3 * (G : Int)))) a b ((List.range L').map (polMark (1 + 3 * (G : Int) + 3 * (L : Int)))) a' b' m n 1) (1 + 3 * (G : Int) + 3 * (L : Int) + 3 * (L' : Int)) := by
  unfold laws_heldSetup.f laws_heldBehave.f laws_heldSide.f
  refine Ev.bind (ev_heldGoalS G hg 1 (by omega) (by omega)) (Ev.neg (by omega) (Ev.bind (Ev.bind (Ev.bind (ev_heldPolicyS L hl _ (by omega) (by omega)) (Ev.neg (by omega) (Ev.now _))) (Ev.neg (by omega) (Ev.bind (Ev.bind (ev_heldPolicyS L' hl' _ (by omega) (by omega)) (Ev.neg (by omega) (Ev.now _))) (Ev.neg (by omega) (Ev.now _))))) (Ev.neg (by omega) (Ev.now _))))
theorem ev_markHerd (d f w : Int) (g : List S49) (hg : g.length ≤ 1048576) (l : List S71) (hl : l.length ≤ 1048576) (a b : Int) (l' : List S71) (hl' : l'.length ≤ 1048576) (a' b' m n p q r s t : Int) :
    Ev (fun k => laws_markHerd.f k d f w g l a b l' a' b' m n p q r [] [] [] [] s t 1) (1 + 3 * (g.length : Int) + 3 * (l.length : Int) + 3 * (l'.length : Int), (List.range g.length).map (goalMark 1), (List.range l.length).map (polMark (1 + 3 * (g.length : Int))), (List.range l'.length).map (polMark (1 + 3 * (g.length : Int) + 3 * (l.length : Int)))) := by
  unfold laws_markHerd.f
  exact Ev.bind (ev_markSetup d f w g hg l hl a b l' hl' a' b' m n) (Ev.bind0 rfl (Ev.bind0 rfl (Ev.bind0 rfl (Ev.bind0 rfl (Ev.now _)))))
theorem ev_heldHerd (d f w : Int) (G L L' : Nat) (hg : G ≤ 1048576) (hl : L ≤ 1048576) (hl' : L' ≤ 1048576) (a b a' b' m n p q r s t : Int) :
    Ev (fun k => laws_heldHerd.f k d f w ((List.range G).map (goalMark 1)) ((List.range L).map (polMark (1 + 3 * (G : Int)))) a b ((List.range L').map (polMark (1 + 3 * (G : Int) + 3 * (L : Int)))) a' b' m n p q r [] [] [] [] s t 1) (1 + 3 * (G : Int) + 3 * (L : Int) + 3 * (L' : Int)) := by
  unfold laws_heldHerd.f
  exact Ev.bind (ev_heldSetup d f w G L L' hg hl hl' a b a' b' m n) (Ev.neg (by omega) (Ev.bind0 rfl (Ev.neg (by omega) (Ev.bind0 rfl (Ev.neg (by omega) (Ev.bind0 rfl (Ev.neg (by omega) (Ev.bind0 rfl (Ev.neg (by omega) (Ev.now _))))))))))
end Go.Proofs.Ytblfoelddakelaa.Base
namespace Go.Proofs.Ytblfoelddakelaa.Pure
open Go.RowKit Go.Proofs.YtblfoelddakelaaW.PrintWords Go.Proofs.YtblfoelddakelaaW.PrintMore Go.Proofs.YtblfoelddakelaaW.PrintLast Go.Proofs.Ytblfoelddakelaa.H Go.Proofs.Ytblfoelddakelaa.Base
theorem newHerd_shape (d f w : Int) (g : List S49) (hg : g.length ≤ 1048576) (l : List S71) (hl : l.length ≤ 1048576) (a b : Int) (l' : List S71) (hl' : l'.length ≤ 1048576) (a' b' m n c : Int) :
    ∃ (d1 f1 w1 : Int) (g1 : List S49) (u1 : List S71) (a1 b1 : Int) (v1 : List S71) (a2 b2 m1 n1 p c1 q s t : Int) (bb : Bool),
      newHerd d f w g l a b l' a' b' m n c = (d1, f1, w1, g1, u1, a1, b1, v1, a2, b2, m1, n1, p, c1, q, [], [], [], [], s, t, bb) ∧ g1.length ≤ 1048576 ∧ u1.length ≤ 1048576 ∧ v1.length ≤ 1048576 := by
  unfold newHerd
  split
  · exact ⟨_, _, _, _, _, _, _, _, _, _, _, _, _, _, _, _, _, _, rfl, hg, hl, hl'⟩
  · exact ⟨_, _, _, _, _, _, _, _, _, _, _, _, _, _, _, _, _, _, rfl, by simp, by simp, by simp⟩
theorem FnExactNewHerd : ∀ (a0_0 : Int) (a0_1 : Int) (a0_2 : Int) (l0_3 : List (S98)) (l0_4 : List (S132)) (a0_5 : Int) (a0_6 : Int) (l0_7 : List (S132)) (a0_8 : Int) (a0_9 : Int) (a0_10 : Int) (a0_11 : Int) (a1 : Int), (Lit.int .i64 a0_0).wf = true → (Lit.int .i64 a0_1).wf = true → (Lit.int .i64 a0_2).wf = true → (l0_3.length ≤ 9223372036854775807 ∧ ∀ x ∈ l0_3, (x.f0.size ≤ 9223372036854775807 ∧ (Lit.int .i64 x.f1).wf = true ∧ (Lit.int .i64 x.f2).wf = true)) → (l0_4.length ≤ 9223372036854775807 ∧ ∀ x ∈ l0_4, ((Lit.int .i64 x.f0).wf = true ∧ (Lit.int .i64 x.f1).wf = true ∧ (Lit.int .i64 x.f2).wf = true)) → (Lit.int .i64 a0_5).wf = true → (Lit.int .i64 a0_6).wf = true → (l0_7.length ≤ 9223372036854775807 ∧ ∀ x ∈ l0_7, ((Lit.int .i64 x.f0).wf = true ∧ (Lit.int .i64 x.f1).wf = true ∧ (Lit.int .i64 x.f2).wf = true)) → (Lit.int .i64 a0_8).wf = true → (Lit.int .i64 a0_9).wf = true → (Lit.int .i64 a0_10).wf = true → (Lit.int .i64 a0_11).wf = true → (Lit.int .i64 a1).wf = true → ∃ k, laws_FnExactNewHerd.f k a0_0 a0_1 a0_2 l0_3 l0_4 a0_5 a0_6 l0_7 a0_8 a0_9 a0_10 a0_11 a1 = some true := by
  intro d f w g l a b l' a' b' m n c _ _ _ hg hl _ _ hl' _ _ _ _ _
  apply Ev.rounds (g := fun k => laws_FnExactNewHerd.f k d f w g l a b l' a' b' m n c)
  unfold laws_FnExactNewHerd.f
  rcases szSetup_ends d f w g hg.1 (fun x hx => (hg.2 x hx).1) l hl.1 a b l' hl'.1 a' b' m n 1048576 (by omega) (by omega) with h | ⟨L, h, h0, _, h1, h2, h3⟩
  · exact Ev.bind h (Ev.pos (by omega) (Ev.now true))
  · have hb := ev_toSetup d f w g h1 l h2 a b l' h3 a' b' m n
    have e1 : (g.map cvGoal).length ≤ 1048576 := by rw [List.length_map]; exact h1
    have e2 : (l.map cvPolicy).length ≤ 1048576 := by rw [List.length_map]; exact h2
    have e3 : (l'.map cvPolicy).length ≤ 1048576 := by rw [List.length_map]; exact h3
    have hs : ∀ x ∈ g.map cvGoal, x.f0.size ≤ 9223372036854775807 := by
      intro x hx
      rw [List.mem_map] at hx
      obtain ⟨y, hy, rfl⟩ := hx
      exact (hg.2 y hy).1
    have hsp := newHerd_spec d f w _ e1 hs _ e2 a b _ e3 a' b' m n c
    have him := newHerd_impl d f w _ e1 hs _ e2 a b _ e3 a' b' m n c
    have hse := ev_eqSetup d f w _ e1 _ e2 a b _ e3 a' b' m n
    have hms := ev_markSetup d f w _ e1 _ e2 a b _ e3 a' b' m n
    generalize g.map cvGoal = G at *
    generalize l.map cvPolicy = L1 at *
    generalize l'.map cvPolicy = L2 at *
    obtain ⟨d1, f1, w1, g1, u1, a1, b1, v1, a2, b2, m1, n1, p, c1, q, s, t, bb, e, z1, z2, z3⟩ := newHerd_shape d f w G e1 L1 e2 a b L2 e3 a' b' m n c
    rw [e] at hsp him
    have heq := ev_eqHerd d1 f1 w1 g1 z1 u1 z2 a1 b1 v1 z3 a2 b2 m1 n1 p c1 q s t
    have hmh := ev_markHerd d1 f1 w1 g1 z1 u1 z2 a1 b1 v1 z3 a2 b2 m1 n1 p c1 q s t
    have hhh := ev_heldHerd d1 f1 w1 g1.length u1.length v1.length z1 z2 z3 a1 b1 a2 b2 m1 n1 p c1 q s t
    have hbb : ¬ ((bb != bb) = true) := by simp
    refine Ev.bind h (Ev.neg (by omega) (Ev.bind hb (Ev.bind hsp (Ev.bind hb (Ev.bind him (Ev.bind heq (Ev.pos rfl ?_)))))))
    refine Ev.step (fun k => laws_FnExactNewHerd.j0.eq_2 ..) (Ev.neg hbb (Ev.bind hb (Ev.bind hse (Ev.pos rfl (Ev.bind hms (Ev.neg ?_ (Ev.bind heq (Ev.pos rfl ?_))))))))
    · show ¬ (1 + 3 * (G.length : Int) + 3 * (L1.length : Int) + 3 * (L2.length : Int) < 0)
      omega
    refine Ev.step (fun k => laws_FnExactNewHerd.j1.eq_2 ..) (Ev.neg hbb (Ev.bind hmh (Ev.bind hhh (Ev.neg (by omega) (Ev.pos rfl (Ev.bind hb (Ev.bind him (Ev.bind heq (Ev.pos rfl ?_)))))))))
    exact Ev.step (fun k => laws_FnExactNewHerd.j2.eq_2 ..) (Ev.neg hbb (Ev.bind hhh (Ev.neg (by omega) (Ev.pos rfl (Ev.now true)))))
end Go.Proofs.Ytblfoelddakelaa.Pure
