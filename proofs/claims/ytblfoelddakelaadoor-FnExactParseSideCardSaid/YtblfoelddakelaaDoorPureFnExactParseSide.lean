/- For every text the law of ParseSide answers true.
   Conditions: none. -/
import Derived.Test.YtblfoelddakelaaDoorVMore
import Derived.Lib.ItoaLen
import Derived.Lib.ItoaMem
import Derived.Lib.Join
import Derived.Lib.SplitLaws
import Derived.Lib.AtoiAllCases
import Derived.Test.YtblfoelddakelaaDoorP6
import Derived.Test.YtblfoelddakelaaDoorP5
import Derived.Test.YtblfoelddakelaaDoorP7
import Derived.Test.YtblfoelddakelaaDoorP12
import Derived.Test.YtblfoelddakelaaDoorP3
import Derived.Test.YtblfoelddakelaaDoorP4
import Derived.Test.YtblfoelddakelaaDoorP10
import Derived.Test.YtblfoelddakelaaDoorP9
import Derived.Test.YtblfoelddakelaaDoorP11
import Derived.Test.YtblfoelddakelaaDoorP8
import Derived.Test.YtblfoelddakelaaDoorP13
import Derived.Test.YtblfoelddakelaaDoorP14
import Derived.Test.YtblfoelddakelaaDoorP15
import Derived.Test.YtblfoelddakelaaDoorP2
import Derived.Test.YtblfoelddakelaaDoorP16
/- Plain facts: loops of the printed functions, from some number of rounds on.
   Conditions: none. -/
namespace Go.Proofs.YtblfoelddakelaaDoor.Base
open Go.RowKit Go.Proofs.YtblfoelddakelaaDoorW.PrintWords Go.Proofs.YtblfoelddakelaaDoorW.PrintMore

theorem wr_succ {i n : Nat} (h : i < n) (hn : n ≤ 4611686018427387904) : wrap64 ((i : Int) + 1) = ((i + 1 : Nat) : Int) := by
  unfold wrap64; omega
theorem wr_pred {i : Nat} (h : 0 < i) (hn : i ≤ 4611686018427387904) : wrap64 ((i : Int) - 1) = ((i - 1 : Nat) : Int) := by
  unfold wrap64; omega
theorem wr_id {x : Int} (h : -9223372036854775808 ≤ x) (h' : x ≤ 9223372036854775807) : wrap64 x = x := by
  unfold wrap64; omega

theorem Ev.pos {α : Type} {c : Prop} [Decidable c] {f g : Nat → Option α} {r : α} (hc : c) (h : Ev f r) : Ev (fun k => if c then f k else g k) r := by
  obtain ⟨K, h⟩ := h
  exact ⟨K, fun k hk => (if_pos hc).trans (h k hk)⟩
theorem Ev.neg {α : Type} {c : Prop} [Decidable c] {f g : Nat → Option α} {r : α} (hc : ¬ c) (h : Ev g r) : Ev (fun k => if c then f k else g k) r := by
  obtain ⟨K, h⟩ := h
  exact ⟨K, fun k hk => (if_neg hc).trans (h k hk)⟩
/-- A bind of what needs no rounds. -/
theorem Ev.bind0 {α β : Type} {o : Option α} {a : α} {f : Nat → α → Option β} {r : β} (h : o = some a) (k : Ev (fun n => f n a) r) : Ev (fun n => o.bind (f n)) r := by
  subst h; exact k
theorem Ev.unique {α : Type} {g : Nat → Option α} {r q : α} (h : Ev g r) (h' : Ev g q) : r = q := by
  obtain ⟨K, h⟩ := h
  obtain ⟨K', h'⟩ := h'
  have a := h (max K K') (Nat.le_max_left _ _)
  rw [h' (max K K') (Nat.le_max_right _ _)] at a
  exact (Option.some.inj a).symm

/-- A loop over 0 .. n-1 with a state. -/
theorem ev_fold {σ ρ : Type} {F : Nat → σ → Int → Option ρ} {n : Nat} {st : σ → Nat → σ} {out : σ → ρ} {Inv : σ → Nat → Prop}
    (hend : ∀ s, Inv s n → Ev (fun k => F k s (n : Int)) (out s))
    (hstep : ∀ s i, i < n → Inv s i → Inv (st s i) (i + 1) ∧ ∀ r, Ev (fun k => F k (st s i) ((i + 1 : Nat) : Int)) r → Ev (fun k => F k s (i : Int)) r) :
    ∀ d i s, i + d = n → Inv s i → Ev (fun k => F k s (i : Int)) (out ((List.range' i d).foldl st s)) := by
  intro d
  induction d with
  | zero =>
    intro i s hi hI
    obtain rfl : i = n := by omega
    simpa using hend s hI
  | succ d ih =>
    intro i s hi hI
    obtain ⟨hI', hs⟩ := hstep s i (by omega) hI
    rw [List.range'_succ, List.foldl_cons]
    exact hs _ (ih (i + 1) (st s i) (by omega) hI')

theorem fold_inv {σ : Type} {n : Nat} {st : σ → Nat → σ} {Inv : σ → Nat → Prop} (hstep : ∀ s i, i < n → Inv s i → Inv (st s i) (i + 1)) :
    ∀ d i s, i + d = n → Inv s i → Inv ((List.range' i d).foldl st s) n := by
  intro d
  induction d with
  | zero => intro i s hi h; obtain rfl : i = n := by omega
            simpa using h
  | succ d ih => intro i s hi h; rw [List.range'_succ, List.foldl_cons]; exact ih (i + 1) _ (by omega) (hstep s i (by omega) h)

/-- A loop over 0 .. n-1 that ends at the first i where p does not hold. -/
theorem ev_all {F : Nat → Int → Option Bool} {n : Nat} {p : Nat → Bool} {q : Bool}
    (hend : Ev (fun k => F k (n : Int)) q)
    (hno : ∀ i, i < n → p i = false → Ev (fun k => F k (i : Int)) false)
    (hstep : ∀ i r, i < n → p i = true → Ev (fun k => F k ((i + 1 : Nat) : Int)) r → Ev (fun k => F k (i : Int)) r) :
    ∀ d i, i + d = n → Ev (fun k => F k (i : Int)) ((List.range' i d).all p && q) := by
  intro d
  induction d with
  | zero =>
    intro i hi
    obtain rfl : i = n := by omega
    simpa using hend
  | succ d ih =>
    intro i hi
    rw [List.range'_succ, List.all_cons]
    cases hp : p i with
    | false => simpa using hno i (by omega) hp
    | true =>
      rw [Bool.true_and]
      exact hstep i _ (by omega) hp (ih (i + 1) (by omega))

/-- The same where each round takes one. -/
theorem ev_all1 {F : Nat → Int → Option Bool} {n : Nat} {p : Nat → Bool} {q : Bool}
    (hend : Ev (fun k => F k (n : Int)) q)
    (hstep : ∀ i k, i < n → F (k + 1) (i : Int) = if p i = true then F k ((i + 1 : Nat) : Int) else some false) :
    Ev (fun k => F k 0) ((List.range' 0 n).all p && q) :=
  ev_all (F := F) (n := n) (p := p) (q := q) hend (fun i hi hp => Ev.step (f := fun _ => some false) (fun k => by rw [hstep i k hi, hp]; simp) (Ev.now false))
    (fun i r hi hp h => Ev.step (fun k => by rw [hstep i k hi, hp]; simp) h) n 0 (by omega)

/-- A loop that fills a list, one place a round. -/
theorem ev_fill {β : Type} {F : Nat → List β → Int → Option (List β)} {n : Nat} {g : Nat → β}
    (hend : ∀ s : List β, s.length = n → Ev (fun k => F k s (n : Int)) s)
    (hstep : ∀ (s : List β) (i : Nat) (r : List β), i < n → s.length = n → Ev (fun k => F k (s.set i (g i)) ((i + 1 : Nat) : Int)) r → Ev (fun k => F k s (i : Int)) r)
    (s : List β) (hs : s.length = n) : Ev (fun k => F k s 0) ((List.range n).map g) := by
  have h := ev_fold (F := F) (n := n) (st := fun s i => s.set i (g i)) (out := fun s => s) (Inv := fun s i => s.length = n ∧ ∀ j, j < i → s[j]? = some (g j)) (fun s hI => hend s hI.1)
    (fun s i hi hI => ⟨⟨by rw [List.length_set]; exact hI.1, fun j hj => by
      by_cases hji : j = i
      · subst hji; rw [List.getElem?_set_self (by omega)]
      · rw [List.getElem?_set_ne (by omega)]; exact hI.2 j (by omega)⟩, fun r h => hstep s i r hi hI.1 h⟩) n 0 s (by omega) ⟨hs, fun j hj => absurd hj (Nat.not_lt_zero _)⟩
  have e : (List.range' 0 n).foldl (fun s i => s.set i (g i)) s = (List.range n).map g := by
    have key : ∀ d i (s : List β), s.length = n → i + d = n → (∀ j, j < i → s[j]? = some (g j)) → ∀ j, j < n → ((List.range' i d).foldl (fun s i => s.set i (g i)) s)[j]? = some (g j) ∧ ((List.range' i d).foldl (fun s i => s.set i (g i)) s).length = n := by
      intro d
      induction d with
      | zero => intro i s hs hi hj j hjn; simpa using ⟨hj j (by omega), hs⟩
      | succ d ih =>
        intro i s hs hi hj j hjn
        rw [List.range'_succ, List.foldl_cons]
        refine ih (i + 1) _ (by rw [List.length_set]; exact hs) (by omega) (fun j hj' => ?_) j hjn
        by_cases hji : j = i
        · subst hji; rw [List.getElem?_set_self (by omega)]
        · rw [List.getElem?_set_ne (by omega)]; exact hj j (by omega)
    apply List.ext_getElem?
    intro j
    by_cases hj : j < n
    · rw [(key n 0 s hs (by omega) (fun j hj => absurd hj (Nat.not_lt_zero _)) j hj).1]
      simp [hj]
    · have hl : ((List.range' 0 n).foldl (fun s i => s.set i (g i)) s).length = n := by
        by_cases h0 : n = 0
        · subst h0; simpa using hs
        · exact (key n 0 s hs (by omega) (fun j hj => absurd hj (Nat.not_lt_zero _)) 0 (by omega)).2
      rw [List.getElem?_eq_none (by omega)]
      simp [hj]
  rw [e] at h
  exact h

theorem map_range_getD {α β : Type} (l : List α) (d : α) (f : α → β) : ((List.range l.length).map fun i => f (l.getD i d)) = l.map f := by
  apply List.ext_getElem?
  intro i
  by_cases hi : i < l.length
  · simp [hi, List.getD]
  · simp [hi]

theorem sz_len {n : Nat} (hn : n ≤ 9223372036854775807) {L : Int} (h0 : 0 ≤ L) (hL : L ≤ 1048576) : wrap64 (L - (n : Int)) = L - n := by
  unfold wrap64; omega
end Go.Proofs.YtblfoelddakelaaDoor.Base
/- Plain facts: texts as lists of bytes; the decimal numeral.
   Conditions: none. -/
namespace Go.Proofs.YtblfoelddakelaaDoor.Texts
open Go.RowKit Go.Proofs.YtblfoelddakelaaDoorW.PrintWords Go.Proofs.YtblfoelddakelaaDoorW.PrintMore Go.Proofs.YtblfoelddakelaaDoorW.PrintLast Go.Proofs.YtblfoelddakelaaDoor.Base

/-- The text of a list of bytes. -/
def S (l : List UInt8) : ByteArray := ⟨l.toArray⟩
theorem S_lit (l : List UInt8) : (⟨l.toArray⟩ : ByteArray) = S l := rfl
theorem S_app (l m : List UInt8) : S l ++ S m = S (l ++ m) := by
  apply ByteArray.ext
  simp [S, ByteArray.data_append]
theorem S_size (l : List UInt8) : (S l).size = l.length := by simp [S, ByteArray.size]
theorem S_data (l : List UInt8) : (S l).data.toList = l := by simp [S]
theorem S_of (b : ByteArray) : S b.data.toList = b := by
  apply ByteArray.ext
  simp [S]

/-- The digits of u, none for 0. -/
def dg0 (u : Nat) : List UInt8 := if u = 0 then [] else Lib.decDigits u
theorem dg0_step (u : Nat) (h : 0 < u) : dg0 u = dg0 (u / 10) ++ [UInt8.ofNat (48 + u % 10)] := by
  unfold dg0
  rw [if_neg (by omega)]
  by_cases h9 : u < 10
  · rw [Lib.decDigits_one h9, if_pos (by omega)]
    simp [Nat.mod_eq_of_lt h9]
  · rw [if_neg (by omega), Lib.decDigits, dif_neg h9]

theorem tdiv_abs (v : Int) : (Int.tdiv v 10).natAbs = v.natAbs / 10 := by
  rw [Int.natAbs_tdiv]; rfl
theorem tmod_abs (v : Int) : (Int.tmod v 10).natAbs = v.natAbs % 10 := by
  rw [Int.natAbs_tmod]; rfl

theorem digit_str (d : Nat) (h : d < 10) : strOfNums [((48 + d : Nat) : Int)] = S [UInt8.ofNat (48 + d)] := by
  have : d = 0 ∨ d = 1 ∨ d = 2 ∨ d = 3 ∨ d = 4 ∨ d = 5 ∨ d = 6 ∨ d = 7 ∨ d = 8 ∨ d = 9 := by omega
  rcases this with rfl | rfl | rfl | rfl | rfl | rfl | rfl | rfl | rfl | rfl <;> rfl
end Go.Proofs.YtblfoelddakelaaDoor.Texts
/- Plain facts: a list of bytes parted at each byte of one kind; the decimal numeral read back.
   Conditions: none. -/
namespace Go.Proofs.YtblfoelddakelaaDoor.Texts
open Go.RowKit Go.Proofs.YtblfoelddakelaaDoorW.PrintWords Go.Proofs.YtblfoelddakelaaDoorW.PrintMore Go.Proofs.YtblfoelddakelaaDoorW.PrintLast Go.Proofs.YtblfoelddakelaaDoor.Base

/-- The parts of a list of bytes at each c; cur is what stands ahead. -/
def sp (c : UInt8) : List UInt8 → List UInt8 → List (List UInt8)
  | cur, [] => [cur]
  | cur, b :: l => if b = c then cur :: sp c [] l else sp c (cur ++ [b]) l

theorem sp_hit (c : UInt8) : ∀ (a cur b : List UInt8), c ∉ a → sp c cur (a ++ c :: b) = (cur ++ a) :: sp c [] b
  | [], cur, b, _ => by simp [sp]
  | x :: a, cur, b, h => by
    have hx : x ≠ c := fun e => h (by simp [e])
    have ha : c ∉ a := fun e => h (by simp [e])
    rw [List.cons_append, sp, if_neg hx, sp_hit c a (cur ++ [x]) b ha]
    simp
theorem sp_end (c : UInt8) : ∀ (a cur : List UInt8), c ∉ a → sp c cur a = [cur ++ a]
  | [], cur, _ => by simp [sp]
  | x :: a, cur, h => by
    have hx : x ≠ c := fun e => h (by simp [e])
    have ha : c ∉ a := fun e => h (by simp [e])
    rw [sp, if_neg hx, sp_end c a (cur ++ [x]) ha]
    simp
theorem sp_ne (c : UInt8) : ∀ (l cur : List UInt8), sp c cur l ≠ []
  | [], cur => by simp [sp]
  | b :: l, cur => by
    rw [sp]
    by_cases h : b = c
    · rw [if_pos h]; simp
    · rw [if_neg h]; exact sp_ne c l _
theorem join_cons2 (x : List UInt8) (r : List (List UInt8)) (c : UInt8) (h : r ≠ []) : Lib.join (x :: r) [c] = x ++ c :: Lib.join r [c] := by
  cases r with
  | nil => exact absurd rfl h
  | cons y r =>
    rw [Lib.join_cons, Lib.join_cons]
    simp [Lib.joinTail]
theorem sp_join (c : UInt8) : ∀ (l cur : List UInt8), Lib.join (sp c cur l) [c] = cur ++ l
  | [], cur => by rw [sp, Lib.join_one]; simp
  | b :: l, cur => by
    rw [sp]
    by_cases h : b = c
    · rw [if_pos h, join_cons2 _ _ _ (sp_ne c l []), sp_join c l []]; simp [h]
    · rw [if_neg h, sp_join c l]; simp
theorem sp_len (c : UInt8) : ∀ (l cur : List UInt8), (sp c cur l).length ≤ l.length + 1
  | [], cur => by simp [sp]
  | b :: l, cur => by
    rw [sp]
    by_cases h : b = c
    · rw [if_pos h]; have := sp_len c l []; simp only [List.length_cons]; omega
    · rw [if_neg h]; have := sp_len c l (cur ++ [b]); simp only [List.length_cons]; omega
theorem sp_mem (c : UInt8) : ∀ (l cur : List UInt8), ∀ x ∈ sp c cur l, x.length ≤ cur.length + l.length
  | [], cur => by intro x hx; simp [sp] at hx; subst hx; simp
  | b :: l, cur => by
    intro x hx
    rw [sp] at hx
    by_cases h : b = c
    · rw [if_pos h, List.mem_cons] at hx
      rcases hx with rfl | hx
      · simp
      · have := sp_mem c l [] x hx
        simp only [List.length_cons, List.length_nil] at this ⊢; omega
    · rw [if_neg h] at hx
      have := sp_mem c l (cur ++ [b]) x hx
      simp only [List.length_cons, List.length_append, List.length_nil] at this ⊢; omega

/-- Of a join of parts that hold no c the parts are these. -/
theorem sp_of_join (c : UInt8) : ∀ (ps : List (List UInt8)), ps ≠ [] → (∀ p ∈ ps, c ∉ p) → sp c [] (Lib.join ps [c]) = ps
  | [], h, _ => absurd rfl h
  | [p], _, h => by rw [Lib.join_one, sp_end c p [] (h p (by simp))]; rfl
  | p :: q :: r, _, h => by
    rw [join_cons2 p (q :: r) c (by simp), sp_hit c p [] _ (h p (by simp)), sp_of_join c (q :: r) (by simp) (fun x hx => h x (by simp at hx ⊢; exact Or.inr hx))]
    rfl

theorem index_miss1 (c : UInt8) : ∀ l : List UInt8, c ∉ l → Lib.index l [c] = -1
  | [], _ => by simp [Lib.index]
  | b :: l, h => by
    have hb : b ≠ c := fun e => h (by simp [e])
    have hl : c ∉ l := fun e => h (by simp [e])
    have hp : ([c] : List UInt8).isPrefixOf (b :: l) = false := by simp [List.isPrefixOf, Ne.symm hb]
    rw [Lib.index, hp, index_miss1 c l hl]
    simp
theorem index_hit1 (c : UInt8) : ∀ a b : List UInt8, c ∉ a → Lib.index (a ++ c :: b) [c] = (a.length : Int)
  | [], b, _ => by rw [List.nil_append, Lib.index]; simp [List.isPrefixOf]
  | x :: a, b, h => by
    have hb : x ≠ c := fun e => h (by simp [e])
    have hl : c ∉ a := fun e => h (by simp [e])
    have hp : ([c] : List UInt8).isPrefixOf (x :: (a ++ c :: b)) = false := by simp [List.isPrefixOf, Ne.symm hb]
    rw [List.cons_append, Lib.index, hp, index_hit1 c a b hl]
    have : ¬ (((a.length : Int)) == -1) = true := by intro e; have := beq_iff_eq.1 e; omega
    simp only [if_neg this]
    simp
theorem splitK_sp (c : UInt8) : ∀ (k : Nat) (l : List UInt8), l.count c = k → Lib.splitK [c] 0 k l = sp c [] l
  | 0, l, h => by
    have : c ∉ l := List.count_eq_zero.1 h
    rw [sp_end c l [] this]; rfl
  | k + 1, l, h => by
    have hm : c ∈ l := List.count_pos_iff.1 (by omega)
    obtain ⟨a, b, rfl, hab⟩ := List.eq_append_cons_of_mem hm
    have hc : b.count c = k := by
      rw [List.count_append, List.count_cons_self, List.count_eq_zero.2 hab] at h
      omega
    rw [sp_hit c a [] b hab, Lib.splitK, index_hit1 c a b hab]
    have : ¬ (((a.length : Int)) == -1) = true := by intro e; have := beq_iff_eq.1 e; omega
    rw [if_neg this]
    simp only [Int.toNat_natCast, Nat.add_zero, List.nil_append, List.length_cons, List.length_nil, Nat.zero_add]
    have e1 : (a ++ c :: b).take a.length = a := by simp
    have e2 : (a ++ c :: b).drop (a.length + 1) = b := by
      rw [← List.drop_drop]
      simp
    rw [e1, e2, splitK_sp c k b hc]
end Go.Proofs.YtblfoelddakelaaDoor.Texts
/- Plain facts: the decimal numeral read back.
   Conditions: none. -/
namespace Go.Proofs.YtblfoelddakelaaDoor.Texts
open Go.RowKit Go.Proofs.YtblfoelddakelaaDoorW.PrintWords Go.Proofs.YtblfoelddakelaaDoorW.PrintMore Go.Proofs.YtblfoelddakelaaDoorW.PrintLast Go.Proofs.YtblfoelddakelaaDoor.Base

def dval (acc : Nat) (l : List UInt8) : Nat := l.foldl (fun a b => a * 10 + (b.toNat - 48)) acc
def digs (l : List UInt8) : Prop := ∀ b ∈ l, 48 ≤ b.toNat ∧ b.toNat ≤ 57
theorem dval_mono : ∀ (l : List UInt8) (acc : Nat), acc ≤ dval acc l
  | [], acc => Nat.le_refl _
  | b :: l, acc => Nat.le_trans (by omega) (dval_mono l (acc * 10 + (b.toNat - 48)))
theorem dval_app (acc : Nat) (l m : List UInt8) : dval acc (l ++ m) = dval (dval acc l) m := by unfold dval; rw [List.foldl_append]
theorem digit_nat (d : Nat) (h : d < 10) : (UInt8.ofNat (48 + d)).toNat = 48 + d := by
  have : d = 0 ∨ d = 1 ∨ d = 2 ∨ d = 3 ∨ d = 4 ∨ d = 5 ∨ d = 6 ∨ d = 7 ∨ d = 8 ∨ d = 9 := by omega
  rcases this with rfl | rfl | rfl | rfl | rfl | rfl | rfl | rfl | rfl | rfl <;> rfl
theorem dec_step (u : Nat) (h : ¬ u < 10) : Lib.decDigits u = Lib.decDigits (u / 10) ++ [UInt8.ofNat (48 + u % 10)] := by
  rw [Lib.decDigits, dif_neg h]
theorem dec_digs : ∀ (n u : Nat), u ≤ n → digs (Lib.decDigits u) ∧ dval 0 (Lib.decDigits u) = u ∧ Lib.decDigits u ≠ [] := by
  intro n
  induction n with
  | zero =>
    intro u hu
    obtain rfl : u = 0 := by omega
    rw [Lib.decDigits_one (by omega)]
    exact ⟨by intro b hb; simp at hb; subst hb; decide, rfl, by simp⟩
  | succ n ih =>
    intro u hu
    by_cases h : u < 10
    · rw [Lib.decDigits_one h]
      refine ⟨?_, ?_, by simp⟩
      · intro b hb
        rw [List.mem_singleton] at hb; subst hb
        rw [digit_nat u h]; omega
      · unfold dval
        simp only [List.foldl_cons, List.foldl_nil]
        rw [digit_nat u h]; omega
    · obtain ⟨h1, h2, h3⟩ := ih (u / 10) (by omega)
      rw [dec_step u h]
      refine ⟨?_, ?_, by simp⟩
      · intro b hb
        rw [List.mem_append] at hb
        rcases hb with hb | hb
        · exact h1 b hb
        · rw [List.mem_singleton] at hb; subst hb
          rw [digit_nat _ (by omega)]; omega
      · rw [dval_app, h2]
        unfold dval
        simp only [List.foldl_cons, List.foldl_nil]
        rw [digit_nat _ (by omega)]; omega
theorem parse_digs : ∀ (l : List UInt8) (acc : Nat), digs l → dval acc l < 1000000000000 → Lib.parseUint10 acc l = .ok (dval acc l)
  | [], acc, _, _ => rfl
  | b :: l, acc, h, hv => by
    have hb := h b (by simp)
    have hm := dval_mono l (acc * 10 + (b.toNat - 48))
    have hv' : dval (acc * 10 + (b.toNat - 48)) l < 1000000000000 := hv
    rw [Lib.parseUint10, if_pos hb, if_neg (by omega), if_neg (by omega), parse_digs l _ (fun x hx => h x (by simp [hx])) hv']
    rfl
theorem atoi_itoa (x : Int) (h0 : 0 ≤ x) (h1 : x ≤ 1000000000) : Lib.atoiAll (Lib.itoa x) = .ok x := by
  obtain ⟨u, rfl⟩ : ∃ u : Nat, x = (u : Int) := ⟨x.toNat, by omega⟩
  rw [Lib.itoa_nonneg]
  obtain ⟨d1, d2, d3⟩ := dec_digs u u (Nat.le_refl _)
  cases hl : Lib.decDigits u with
  | nil => exact absurd hl d3
  | cons c r =>
    rw [hl] at d1 d2
    have hc := d1 c (by simp)
    rw [Lib.atoiAll_plain c r (by omega) (by omega)]
    have hp : Lib.parseMag (c :: r) = .ok u := by
      unfold Lib.parseMag
      rw [if_neg (by simp), parse_digs _ 0 d1 (by rw [d2]; omega), d2]
    rw [hp]
    unfold Lib.signless
    simp only []
    rw [if_neg (by omega)]
theorem itoa_noc (x : Int) (h0 : 0 ≤ x) (c : UInt8) (hc : c.toNat < 48 ∨ 57 < c.toNat) : c ∉ Lib.itoa x := by
  obtain ⟨u, rfl⟩ : ∃ u : Nat, x = (u : Int) := ⟨x.toNat, by omega⟩
  rw [Lib.itoa_nonneg]
  obtain ⟨d1, _, _⟩ := dec_digs u u (Nat.le_refl _)
  intro h
  have := d1 c h
  omega
end Go.Proofs.YtblfoelddakelaaDoor.Texts
/- Plain fact: the statements' numeral is the library's.
   Conditions: none. -/
namespace Go.Proofs.YtblfoelddakelaaDoor.Texts
open Go.RowKit Go.Proofs.YtblfoelddakelaaDoorW.PrintWords Go.Proofs.YtblfoelddakelaaDoorW.PrintMore Go.Proofs.YtblfoelddakelaaDoorW.PrintLast Go.Proofs.YtblfoelddakelaaDoor.Base Go.Proofs.YtblfoelddakelaaDoor.P

theorem num_loop : ∀ (n u : Nat), u ≤ n → ∀ (v : Int), v.natAbs = u → -9223372036854775808 ≤ v → v ≤ 9223372036854775807 →
    ∀ (s : List UInt8) (b : Bool), s.length + (dg0 u).length ≤ 1000 →
    Ev (fun k => spec_l01Num.l0 k v (S s) b) (S ((if b = true then [45] else []) ++ dg0 u ++ s)) := by
  intro n
  induction n with
  | zero =>
    intro u hu v hv h0 h1 s b hs
    obtain rfl : u = 0 := by omega
    obtain rfl : v = 0 := by omega
    refine Ev.step (fun k => rfl) ?_
    refine Ev.pos rfl ?_
    cases b
    · refine Ev.neg (by decide) ?_
      simpa [dg0] using Ev.now (S s)
    · refine Ev.pos rfl (Ev.pos ?_ ?_)
      · rw [S_size]; omega
      · show Ev (fun k => some (S [45] ++ S s)) _
        rw [S_app]
        exact Ev.now (S ([45] ++ s))
  | succ n ih =>
    intro u hu v hv h0 h1 s b hs
    by_cases hz : u = 0
    · exact ih u (by omega) v hv h0 h1 s b hs
    have hst := dg0_step u (by omega)
    have hd : (Int.tdiv v 10).natAbs = u / 10 := by rw [tdiv_abs, hv]
    have hm : (Int.tmod v 10).natAbs = u % 10 := by rw [tmod_abs, hv]
    have hu9 : u ≤ 9223372036854775808 := by omega
    have hdb : -9223372036854775808 ≤ Int.tdiv v 10 ∧ Int.tdiv v 10 ≤ 9223372036854775807 := by omega
    have hw : wrap64 (Int.tdiv v 10) = Int.tdiv v 10 := wr_id hdb.1 hdb.2
    have hlen : (dg0 u).length = (dg0 (u / 10)).length + 1 := by rw [hst]; simp
    have go : ∀ (x : Int), x = ((48 + u % 10 : Nat) : Int) → Ev (fun k => (some ([x] : List Int)).bind fun y => (if (strOfNums y).size + (S s).size ≤ 9223372036854775807 then (spec_l01Num.l0 k (wrap64 (Int.tdiv v 10)) ((strOfNums y) ++ (S s)) b) else none)) (S ((if b = true then [45] else []) ++ dg0 u ++ s)) := by
      intro x hx
      subst hx
      refine Ev.bind0 rfl ?_
      refine Ev.pos ?_ ?_
      · rw [digit_str _ (by omega), S_size, S_size]
        simp only [List.length_cons, List.length_nil]; omega
      · rw [digit_str _ (by omega), S_app, hw]
        have := ih (u / 10) (by omega) (Int.tdiv v 10) hd hdb.1 hdb.2 ([UInt8.ofNat (48 + u % 10)] ++ s) b (by simp only [List.length_append, List.length_cons, List.length_nil]; omega)
        rw [hst]
        simpa using this
    refine Ev.step (fun k => rfl) ?_
    refine Ev.neg (by omega) ?_
    by_cases hneg : Int.tmod v 10 < 0
    · refine Ev.pos hneg ?_
      refine go _ ?_
      have e1 : wrap64 (-(Int.tmod v 10)) = ((u % 10 : Nat) : Int) := by rw [wr_id (by omega) (by omega)]; omega
      rw [e1, wr_id (by omega) (by omega)]; omega
    · refine Ev.neg hneg ?_
      refine go _ ?_
      have e1 : Int.tmod v 10 = ((u % 10 : Nat) : Int) := by omega
      rw [e1, wr_id (by omega) (by omega)]; omega

theorem ev_num (a : Int) (h0 : -9223372036854775808 ≤ a) (h1 : a ≤ 9223372036854775807) : Ev (fun k => spec_l01Num.f k a) (S (Lib.itoa a)) := by
  unfold spec_l01Num.f
  by_cases hz : a = 0
  · subst hz
    refine Ev.pos rfl ?_
    have : Lib.itoa 0 = [48] := by simp [Lib.itoa, Lib.decDigits_one]
    rw [this]
    exact Ev.now _
  · refine Ev.neg hz ?_
    have hl := Lib.itoa_length_le a h0 h1
    have e : Lib.itoa a = (if decide (a < 0) = true then [45] else []) ++ dg0 a.natAbs ++ [] := by
      unfold Lib.itoa dg0
      rw [if_neg (by omega : ¬ a.natAbs = 0)]
      by_cases hn : a < 0
      · simp [hn]
      · simp [hn, show a.toNat = a.natAbs by omega]
    rw [e]
    refine num_loop a.natAbs a.natAbs (Nat.le_refl _) a rfl h0 h1 [] (decide (a < 0)) ?_
    have := congrArg List.length e
    simp only [List.length_append, List.length_nil] at this ⊢
    omega
theorem itoa_len (a : Int) (h0 : -9223372036854775808 ≤ a) (h1 : a ≤ 9223372036854775807) : (Lib.itoa a).length ≤ 21 := Lib.itoa_length_le a h0 h1
end Go.Proofs.YtblfoelddakelaaDoor.Texts
/- l01Parts of the reference and strings.Split part a text alike; l01Read and atoi of a numeral; what l01Read takes for one.
   Conditions: none. -/
namespace Go.Proofs.YtblfoelddakelaaDoor.Texts
open Go.RowKit Go.Proofs.YtblfoelddakelaaDoorW.PrintWords Go.Proofs.YtblfoelddakelaaDoorW.PrintMore Go.Proofs.YtblfoelddakelaaDoorW.PrintLast Go.Proofs.YtblfoelddakelaaDoor.Base Go.Proofs.YtblfoelddakelaaDoor.P

theorem S_inj {l m : List UInt8} (h : S l = S m) : l = m := by
  have := congrArg (fun b : ByteArray => b.data.toList) h
  simpa [S_data] using this
theorem map_S_data (l : List ByteArray) : (l.map (·.data.toList)).map S = l := by
  rw [List.map_map]
  exact (List.map_congr_left fun x _ => S_of x).trans (List.map_id _)

theorem bt_S (l : List UInt8) (i : Nat) (h : i < l.length) : bt (S l) (i : Int) = (l[i].toNat : Int) := by
  unfold bt
  have hs : ((i : Int)).toNat < (S l).size := by rw [S_size, Int.toNat_natCast]; exact h
  rw [dif_pos hs]
  rfl
/-- strings.Split at one byte. -/
theorem split_is (l : List UInt8) (c : UInt8) (h : l.length ≤ 1048576) : strings_Split.f (S l) (S [c]) = some ((sp c [] l).map S) := by
  unfold strings_Split.f
  rw [if_pos ⟨by rw [S_size]; exact h, by rw [S_size]; rfl⟩]
  have e := Lib.splitB_data (S [c]) 0 (Lib.countB (S l) (S [c])) (S l)
  rw [S_data, S_data] at e
  have hc : Lib.countB (S l) (S [c]) = l.count c := by
    show Lib.count (S l).data.toList (S [c]).data.toList = _
    rw [S_data, S_data, Lib.count_one]
  rw [hc] at e ⊢
  rw [splitK_sp c _ l rfl] at e
  rw [← e, map_S_data]

/-- The reference's loop. -/
theorem parts_loop (l : List UInt8) (hl : l.length ≤ 1048576) (c : UInt8) : ∀ (d i at_ : Nat) (out : List ByteArray), i + d = l.length → at_ ≤ i → out.length ≤ i →
    Ev (fun k => spec_l01Parts.l0 k (S l) (c.toNat : Int) out (at_ : Int) (i : Int)) (out ++ (sp c ((l.drop at_).take (i - at_)) (l.drop i)).map S) := by
  intro d
  induction d with
  | zero =>
    intro i a out hi ha ho
    have hil : (i : Int) = ((S l).size : Int) := by rw [S_size]; omega
    have hd : l.drop i = [] := List.drop_eq_nil_of_le (by omega)
    refine Ev.step (fun k => rfl) (Ev.pos (by omega) (Ev.pos hil (Ev.pos (by omega) (Ev.pos (by omega) (Ev.pos (by omega) ?_)))))
    have hx : (S l).extract (a : Int).toNat (i : Int).toNat = S ((l.drop a).take (i - a)) := by
      apply ByteArray.ext
      simp only [Int.toNat_natCast, S, ByteArray.data_extract]
      apply Array.ext'
      simp [List.extract_eq_take_drop]
    rw [hx, hd, sp]
    have hw : wrap64 ((i : Int) + 1) = ((i + 1 : Nat) : Int) := by unfold wrap64; omega
    rw [hw]
    refine Ev.step (f := fun _ => some _) (fun k => ?_) (Ev.now _)
    rw [spec_l01Parts.l0, if_neg (by rw [S_size]; omega)]
    rfl
  | succ d ih =>
    intro i a out hi ha ho
    have hil : i < l.length := by omega
    have hne : ¬ (i : Int) = ((S l).size : Int) := by rw [S_size]; omega
    have hdr : l.drop i = l[i] :: l.drop (i + 1) := List.drop_eq_getElem_cons hil
    have hb := bt_S l i hil
    have hw : wrap64 ((i : Int) + 1) = ((i + 1 : Nat) : Int) := by unfold wrap64; omega
    refine Ev.step (fun k => rfl) (Ev.pos (by rw [S_size]; omega) (Ev.neg hne (Ev.pos (by omega) (Ev.pos (by rw [S_size]; omega) ?_))))
    rw [hb, hw, hdr, sp]
    by_cases hc : l[i] = c
    · rw [if_pos hc]
      have hx : (S l).extract (a : Int).toNat (i : Int).toNat = S ((l.drop a).take (i - a)) := by
        apply ByteArray.ext
        simp only [Int.toNat_natCast, S, ByteArray.data_extract]
        apply Array.ext'
        simp [List.extract_eq_take_drop]
      refine Ev.pos (by rw [hc]) (Ev.pos (by omega) (Ev.pos (by omega) (Ev.pos (by omega) ?_)))
      rw [hx]
      have h := ih (i + 1) (i + 1) (out ++ [S ((l.drop a).take (i - a))]) (by omega) (Nat.le_refl _) (by simp; omega)
      simp only [Nat.sub_self, List.take_zero] at h
      simpa using h
    · rw [if_neg hc]
      have hc' : ¬ (l[i].toNat : Int) = (c.toNat : Int) := by
        intro e
        exact hc (UInt8.toNat_inj.1 (by omega))
      refine Ev.neg hc' ?_
      have h := ih (i + 1) a out (by omega) (by omega) (by omega)
      have ht : (l.drop a).take (i + 1 - a) = (l.drop a).take (i - a) ++ [l[i]] := by
        rw [show i + 1 - a = (i - a) + 1 by omega, List.take_add_one]
        congr 1
        simp [List.getElem?_drop, show a + (i - a) = i by omega, hil]
      rw [ht] at h
      exact h
theorem parts_is (l : List UInt8) (hl : l.length ≤ 1048576) (c : UInt8) : Ev (fun k => spec_l01Parts.f k (S l) (c.toNat : Int)) ((sp c [] l).map S) := by
  unfold spec_l01Parts.f
  have h := parts_loop l hl c l.length 0 0 [] (by omega) (Nat.le_refl _) (by simp)
  simpa using h

theorem atoi_is (x : Int) (h0 : 0 ≤ x) (h1 : x ≤ 1000000000) : impl_atoi.f (S (Lib.itoa x)) = some x := by
  unfold impl_atoi.f
  have := Lib.itoa_length_le x (by omega) (by omega)
  rw [if_pos (by rw [S_size]; omega), S_data, atoi_itoa x h0 h1]
  rfl
theorem atoi_any (l : List UInt8) (h : l.length ≤ 1048576) : ∃ x, impl_atoi.f (S l) = some x := by
  unfold impl_atoi.f
  rw [if_pos (by rw [S_size]; omega)]
  exact ⟨_, rfl⟩
end Go.Proofs.YtblfoelddakelaaDoor.Texts
/- SideOk of the program and of the reference is one plain test.
   Conditions: none. -/
namespace Go.Proofs.YtblfoelddakelaaDoor.Base
open Go.RowKit Go.Proofs.YtblfoelddakelaaDoorW.PrintWords Go.Proofs.YtblfoelddakelaaDoorW.PrintMore Go.Proofs.YtblfoelddakelaaDoor.P
theorem in_impl (a b c : Int) : impl_in.f a b c = some (decide (b ≤ a ∧ a ≤ c)) := by
  unfold impl_in.f
  by_cases h : a ≥ b
  · rw [if_pos h]; have h' : b ≤ a := h; simp [h']
  · rw [if_neg h]; have h' : ¬ b ≤ a := h; simp [h']
theorem in_spec (a b c : Int) : spec_l01In.f a b c = some (decide (b ≤ a ∧ a ≤ c)) := by
  unfold spec_l01In.f
  by_cases h : b ≤ a
  · rw [if_pos h]; simp [h]
  · rw [if_neg h]; simp [h]
def sdP (l : List S67) (i : Nat) : Bool := decide (0 ≤ (rd_T67 l i).f0 ∧ (rd_T67 l i).f0 ≤ 1) && (decide (1 ≤ (rd_T67 l i).f1 ∧ (rd_T67 l i).f1 ≤ 1000) && decide (1 ≤ (rd_T67 l i).f2 ∧ (rd_T67 l i).f2 ≤ 1000))
def sideOk (l : List S67) (sel win : Int) : Bool := (List.range' 0 l.length).all (sdP l) && (decide (l.length ≤ 3) && (decide (0 ≤ sel ∧ sel ≤ 2) && decide (0 ≤ win ∧ win ≤ 1000)))
theorem and3_ite {α : Type} (a b c : Bool) (x y : α) : (if (a && (b && c)) = true then x else y) = if a = true then (if b = true then (if c = true then x else y) else y) else y := by
  cases a <;> cases b <;> cases c <;> rfl
theorem sideOk_spec (l : List S67) (sel win : Int) : Ev (fun k => spec_SideOk.f k l sel win) (sideOk l sel win) := by
  unfold spec_SideOk.f sideOk
  by_cases h : (l.length : Int) > 3
  · rw [decide_eq_false (show ¬ l.length ≤ 3 by omega), Bool.false_and, Bool.and_false]
    exact Ev.pos h (Ev.step (f := fun _ => some false) (fun k => by simp [spec_SideOk.j0]) (Ev.now false))
  · rw [decide_eq_true (show l.length ≤ 3 by omega), Bool.true_and]
    refine Ev.neg h ?_
    rw [in_spec, in_spec]
    refine Ev.bind0 rfl ?_
    by_cases h1 : 0 ≤ sel ∧ sel ≤ 2
    · rw [decide_eq_true h1, Bool.true_and]
      refine Ev.pos rfl (Ev.bind0 rfl ?_)
      by_cases h2 : 0 ≤ win ∧ win ≤ 1000
      · rw [decide_eq_true h2]
        refine Ev.step (f := fun k => spec_SideOk.l0 k 0 l sel win) (fun k => by simp [spec_SideOk.j0]) ?_
        refine ev_all1 (F := fun k i => spec_SideOk.l0 k i l sel win) (Ev.step (f := fun _ => some true) (fun k => by simp only [spec_SideOk.l0]; rw [if_neg (by omega)]) (Ev.now true)) ?_
        intro i k hi
        simp only [spec_SideOk.l0, in_spec, Option.bind_some]
        rw [if_pos (by omega), if_pos (by omega), wr_succ hi (by omega)]
        unfold sdP
        rw [and3_ite]
      · rw [decide_eq_false h2, Bool.and_false]
        exact Ev.step (f := fun _ => some false) (fun k => by simp [spec_SideOk.j0]) (Ev.now false)
    · rw [decide_eq_false h1, Bool.false_and, Bool.and_false]
      refine Ev.neg (by decide) ?_
      exact Ev.step (f := fun _ => some false) (fun k => by simp [spec_SideOk.j0]) (Ev.now false)
theorem sideOk_impl (l : List S67) (hl : l.length ≤ 1048576) (sel win : Int) : Ev (fun k => impl_SideOk.f k l sel win) (sideOk l sel win) := by
  unfold impl_SideOk.f sideOk
  refine ev_all1 (F := fun k i => impl_SideOk.l0 k l (l.length : Int) i l sel win) (Ev.step (f := fun _ => some (decide (l.length ≤ 3) && (decide (0 ≤ sel ∧ sel ≤ 2) && decide (0 ≤ win ∧ win ≤ 1000)))) (fun k => ?_) (Ev.now _)) ?_
  · simp only [impl_SideOk.l0, in_impl, Option.bind_some]
    rw [if_neg (by omega)]
    by_cases h : l.length ≤ 3
    · rw [if_pos (show (l.length : Int) ≤ 3 by omega), decide_eq_true h, Bool.true_and]
      by_cases h1 : 0 ≤ sel ∧ sel ≤ 2
      · rw [decide_eq_true h1, if_pos rfl, Bool.true_and]
      · rw [decide_eq_false h1, if_neg (by decide), Bool.false_and]
    · rw [if_neg (show ¬ (l.length : Int) ≤ 3 by omega), decide_eq_false h, Bool.false_and]
  · intro i k hi
    simp only [impl_SideOk.l0, in_impl, Option.bind_some]
    rw [if_pos (by omega), if_pos (by omega), if_pos (by omega), wr_succ hi (by omega)]
    unfold sdP
    rw [and3_ite]
theorem sideOk_facts {l : List S67} {sel win : Int} (h : sideOk l sel win = true) : l.length ≤ 3 ∧ (0 ≤ sel ∧ sel ≤ 2) ∧ (0 ≤ win ∧ win ≤ 1000) ∧ ∀ i : Nat, i < l.length → (0 ≤ (rd_T67 l i).f0 ∧ (rd_T67 l i).f0 ≤ 1) ∧ (1 ≤ (rd_T67 l i).f1 ∧ (rd_T67 l i).f1 ≤ 1000) ∧ (1 ≤ (rd_T67 l i).f2 ∧ (rd_T67 l i).f2 ≤ 1000) := by
  unfold sideOk at h
  rw [Bool.and_eq_true, Bool.and_eq_true, Bool.and_eq_true, List.all_eq_true] at h
  refine ⟨of_decide_eq_true h.2.1, of_decide_eq_true h.2.2.1, of_decide_eq_true h.2.2.2, fun i hi => ?_⟩
  have := h.1 i (by rw [List.mem_range'_1]; omega)
  unfold sdP at this
  rw [Bool.and_eq_true, Bool.and_eq_true] at this
  exact ⟨of_decide_eq_true this.1, of_decide_eq_true this.2.1, of_decide_eq_true this.2.2⟩
end Go.Proofs.YtblfoelddakelaaDoor.Base
/- l01Read of the reference: what it takes for a number; it reads every numeral back.
   Conditions: none. -/
namespace Go.Proofs.YtblfoelddakelaaDoor.Texts
open Go.RowKit Go.Proofs.YtblfoelddakelaaDoorW.PrintWords Go.Proofs.YtblfoelddakelaaDoorW.PrintMore Go.Proofs.YtblfoelddakelaaDoorW.PrintLast Go.Proofs.YtblfoelddakelaaDoor.Base Go.Proofs.YtblfoelddakelaaDoor.P

theorem dec_len : ∀ k u : Nat, u < 10 ^ (k + 1) → (Lib.decDigits u).length ≤ k + 1 := by
  intro k
  induction k with
  | zero => intro u h; rw [Lib.decDigits_one (by simpa using h)]; simp
  | succ k ih =>
    intro u h
    by_cases h9 : u < 10
    · rw [Lib.decDigits_one h9]; simp
    · rw [dec_step u h9]
      have : u / 10 < 10 ^ (k + 1) := by
        rw [Nat.pow_succ] at h
        generalize 10 ^ (k + 1) = P at h ⊢
        omega
      have := ih (u / 10) this
      simp only [List.length_append, List.length_cons, List.length_nil]
      omega
theorem itoa_len10 (x : Int) (h0 : 0 ≤ x) (h1 : x ≤ 1000000000) : (Lib.itoa x).length ≤ 10 := by
  obtain ⟨u, rfl⟩ : ∃ u : Nat, x = (u : Int) := ⟨x.toNat, by omega⟩
  rw [Lib.itoa_nonneg]
  exact dec_len 9 u (by omega)
theorem itoa_len4 (x : Int) (h0 : 0 ≤ x) (h1 : x ≤ 1000) : (Lib.itoa x).length ≤ 4 := by
  obtain ⟨u, rfl⟩ : ∃ u : Nat, x = (u : Int) := ⟨x.toNat, by omega⟩
  rw [Lib.itoa_nonneg]
  exact dec_len 3 u (by omega)
theorem itoa_len1 (x : Int) (h0 : 0 ≤ x) (h1 : x ≤ 9) : (Lib.itoa x).length ≤ 1 := by
  obtain ⟨u, rfl⟩ : ∃ u : Nat, x = (u : Int) := ⟨x.toNat, by omega⟩
  rw [Lib.itoa_nonneg]
  exact dec_len 0 u (by omega)

theorem ext_tail (a : UInt8) (l : List UInt8) : (S (a :: l)).extract 1 (S (a :: l)).size = S l := by
  apply ByteArray.ext
  rw [S_size]
  simp [S, ByteArray.data_extract]
theorem eq_of_toList {a b : List UInt8} (h : ((S a).toList == (S b).toList) = true) : a = b := by
  rw [Go.ByteArray.toList_eq, Go.ByteArray.toList_eq, S_data, S_data] at h
  exact beq_iff_eq.1 h
theorem S_toList (a : List UInt8) : (S a).toList = a := by rw [Go.ByteArray.toList_eq, S_data]

theorem pow_bd10 {i acc : Nat} (hi : i ≤ 10) (ha : acc < 10 ^ i) : acc < 10000000000 :=
  Nat.lt_of_lt_of_le ha (Nat.le_trans (Nat.pow_le_pow_right (by decide) hi) (by decide))
theorem pow_bd9 {i acc : Nat} (hi : i ≤ 9) (ha : acc < 10 ^ i) : acc < 1000000000 :=
  Nat.lt_of_lt_of_le ha (Nat.le_trans (Nat.pow_le_pow_right (by decide) hi) (by decide))
theorem pow_step {i acc d : Nat} (ha : acc < 10 ^ i) (hd : d ≤ 9) : acc * 10 + d < 10 ^ (i + 1) := by
  rw [Nat.pow_succ]
  generalize 10 ^ i = P at ha ⊢
  omega
theorem acc_step (acc q : Nat) (h : acc < 1000000000) (h1 : 48 ≤ q) (h2 : q ≤ 57) : wrap64 (wrap64 (wrap64 (10 * (acc : Int)) + wrap64 (q : Int)) - 48) = ((acc * 10 + (q - 48) : Nat) : Int) := by
  have e1 : wrap64 (10 * (acc : Int)) = 10 * (acc : Int) := wr_id (by omega) (by omega)
  have e2 : wrap64 (q : Int) = (q : Int) := wr_id (by omega) (by omega)
  have e3 : wrap64 (10 * (acc : Int) + (q : Int)) = 10 * (acc : Int) + (q : Int) := wr_id (by omega) (by omega)
  have e4 : wrap64 (10 * (acc : Int) + (q : Int) - 48) = 10 * (acc : Int) + (q : Int) - 48 := wr_id (by omega) (by omega)
  rw [e1, e2, e3, e4]
  clear e1 e2 e3 e4
  omega
theorem read_loop (w ds : List UInt8) (h10 : ds.length ≤ 10) : ∀ (d i acc : Nat), i + d = ds.length → acc < 10 ^ i →
    ∃ x b, Ev (fun k => spec_l01Read.l0 k (S w) (S ds) (acc : Int) (i : Int)) (x, b) ∧ (b = true → w = Lib.itoa x ∧ -10000000000 ≤ x ∧ x ≤ 10000000000) ∧
      (digs (ds.drop i) → ¬ ds.length < w.length → x = (dval acc (ds.drop i) : Int) ∧ b = ((S (Lib.itoa x)).toList == (S w).toList)) := by
  intro d
  induction d with
  | zero =>
    intro i acc hi ha
    have ha2 := pow_bd10 (show i ≤ 10 by omega) ha
    clear ha
    have hd : ds.drop i = [] := List.drop_eq_nil_of_le (by omega)
    have hs : ¬ (i : Int) < ((S ds).size : Int) := by rw [S_size]; omega
    by_cases hl : ds.length < w.length
    · have hw : wrap64 (-(acc : Int)) = -(acc : Int) := wr_id (by omega) (by omega)
      refine ⟨-(acc : Int), _, Ev.step (fun k => rfl) (Ev.neg hs (Ev.pos (by rw [S_size, S_size]; omega) ?_)), fun hb => ⟨(eq_of_toList hb).symm, by omega, by omega⟩, fun _ h => absurd hl h⟩
      rw [hw]
      exact Ev.bind (ev_num _ (by omega) (by omega)) (Ev.now _)
    · refine ⟨(acc : Int), _, Ev.step (fun k => rfl) (Ev.neg hs (Ev.neg (by rw [S_size, S_size]; omega) (Ev.bind (ev_num _ (by omega) (by omega)) (Ev.now _)))), fun hb => ⟨(eq_of_toList hb).symm, by omega, by omega⟩, fun _ _ => ?_⟩
      rw [hd]
      exact ⟨rfl, rfl⟩
  | succ d ih =>
    intro i acc hi ha
    have hil : i < ds.length := by omega
    have ha2 := pow_bd9 (show i ≤ 9 by omega) ha
    have HA := Aside0.mk ha
    clear ha
    have hdr : ds.drop i = ds[i] :: ds.drop (i + 1) := List.drop_eq_getElem_cons hil
    have hb := bt_S ds i hil
    have hs : (i : Int) < ((S ds).size : Int) := by rw [S_size]; omega
    by_cases c1 : (ds[i].toNat : Int) < 48
    · refine ⟨0, false, Ev.step (fun k => rfl) (Ev.pos hs (Ev.pos (by omega) (Ev.pos (by rw [hb]; exact c1) (Ev.now _)))), fun h => by simp at h, fun hg _ => ?_⟩
      have := hg ds[i] (by rw [hdr]; exact List.mem_cons_self)
      omega
    by_cases c2 : (ds[i].toNat : Int) > 57
    · refine ⟨0, false, Ev.step (fun k => rfl) (Ev.pos hs (Ev.pos (by omega) (Ev.neg (by rw [hb]; exact c1) (Ev.pos (by rw [hb]; exact c2) (Ev.now _))))), fun h => by simp at h, fun hg _ => ?_⟩
      have := hg ds[i] (by rw [hdr]; exact List.mem_cons_self)
      omega
    have ha3 := pow_step (d := ds[i].toNat - 48) HA.out (by omega)
    obtain ⟨x, b, e, g1, g2⟩ := ih (i + 1) (acc * 10 + (ds[i].toNat - 48)) (by omega) ha3
    clear ha3
    have e4 := acc_step acc ds[i].toNat ha2 (by omega) (by omega)
    have e5 : wrap64 ((i : Int) + 1) = ((i + 1 : Nat) : Int) := wr_succ hil (by omega)
    refine ⟨x, b, Ev.step (fun k => rfl) (Ev.pos hs (Ev.pos (by omega) (Ev.neg (by rw [hb]; exact c1) (Ev.neg (by rw [hb]; exact c2) ?_)))), g1, fun hg hw => ?_⟩
    · rw [hb, e4, e5]
      exact e
    · rw [hdr] at hg ⊢
      exact g2 (fun y hy => hg y (List.mem_cons_of_mem _ hy)) hw

theorem read_j1 (w ds : List UInt8) : ∃ x b, Ev (fun k => spec_l01Read.j1 k (S w) (S ds)) (x, b) ∧ (b = true → w = Lib.itoa x ∧ -10000000000 ≤ x ∧ x ≤ 10000000000) ∧
    (digs ds → 1 ≤ ds.length → ds.length ≤ 10 → ¬ ds.length < w.length → x = (dval 0 ds : Int) ∧ b = ((S (Lib.itoa x)).toList == (S w).toList)) := by
  by_cases h : 1 ≤ ((S ds).size : Int) ∧ ((S ds).size : Int) ≤ 10
  · rw [S_size] at h
    obtain ⟨x, b, e, g1, g2⟩ := read_loop w ds (by omega) ds.length 0 0 (by omega) (by simp)
    refine ⟨x, b, Ev.step (fun k => spec_l01Read.j1.eq_2 ..) ?_, g1, fun hg _ _ hw => g2 hg hw⟩
    rw [in_spec]
    exact Ev.bind0 rfl (Ev.pos (decide_eq_true (by rw [S_size]; exact h)) e)
  · refine ⟨0, false, Ev.step (fun k => spec_l01Read.j1.eq_2 ..) ?_, fun h => by simp at h, fun _ h1 h2 _ => ?_⟩
    · rw [in_spec]
      exact Ev.bind0 rfl (Ev.neg (by rw [decide_eq_true_eq]; exact h) (Ev.now _))
    · exfalso
      apply h
      rw [S_size]
      omega

theorem read_any (w : List UInt8) : ∃ x b, Ev (fun k => spec_l01Read.f k (S w)) (x, b) ∧ (b = true → w = Lib.itoa x ∧ -10000000000 ≤ x ∧ x ≤ 10000000000) := by
  unfold spec_l01Read.f
  cases w with
  | nil =>
    obtain ⟨x, b, e, g1, _⟩ := read_j1 [] []
    exact ⟨x, b, Ev.neg (by rw [S_size]; simp) (Ev.step (fun k => spec_l01Read.j0.eq_2 ..) (Ev.neg (by simp) e)), g1⟩
  | cons c r =>
    have h0 : ((S (c :: r)).size : Int) > 0 := by rw [S_size]; simp only [List.length_cons]; omega
    cases hq : (bt (S (c :: r)) 0 == 45) with
    | true =>
      obtain ⟨x, b, e, g1, _⟩ := read_j1 (c :: r) r
      refine ⟨x, b, Ev.pos h0 (Ev.pos h0 (Ev.step (fun k => spec_l01Read.j0.eq_2 ..) (Ev.pos rfl (Ev.pos (by omega) ?_)))), g1⟩
      rw [ext_tail]
      exact e
    | false =>
      obtain ⟨x, b, e, g1, _⟩ := read_j1 (c :: r) (c :: r)
      exact ⟨x, b, Ev.pos h0 (Ev.pos h0 (Ev.step (fun k => spec_l01Read.j0.eq_2 ..) (Ev.neg (by simp) e))), g1⟩

theorem read_itoa (x : Int) (h0 : 0 ≤ x) (h1 : x ≤ 1000000000) : Ev (fun k => spec_l01Read.f k (S (Lib.itoa x))) (x, true) := by
  have hlen := itoa_len10 x h0 h1
  obtain ⟨u, rfl⟩ : ∃ u : Nat, x = (u : Int) := ⟨x.toNat, by omega⟩
  have hI : Lib.itoa (u : Int) = Lib.decDigits u := Lib.itoa_nonneg u
  obtain ⟨d1, d2, d3⟩ := dec_digs u u (Nat.le_refl _)
  rw [hI] at hlen ⊢
  cases hl : Lib.decDigits u with
  | nil => exact absurd hl d3
  | cons c r =>
    rw [hl] at d1 d2 hlen
    have hc := d1 c (by simp)
    have h0 : ((S (c :: r)).size : Int) > 0 := by rw [S_size]; simp only [List.length_cons]; omega
    have hq : (bt (S (c :: r)) 0 == 45) = false := by
      have hb : bt (S (c :: r)) 0 = (c.toNat : Int) := bt_S (c :: r) 0 (by simp)
      rw [hb]
      exact beq_eq_false_iff_ne.2 (by omega)
    obtain ⟨x, b, e, _, g2⟩ := read_j1 (c :: r) (c :: r)
    obtain ⟨ex, eb⟩ := g2 d1 (by simp) hlen (by omega)
    rw [d2] at ex
    subst ex
    rw [hI, hl, beq_self_eq_true] at eb
    subst eb
    unfold spec_l01Read.f
    rw [hq]
    exact Ev.pos h0 (Ev.pos h0 (Ev.step (fun k => spec_l01Read.j0.eq_2 ..) (Ev.neg (by simp) e)))
end Go.Proofs.YtblfoelddakelaaDoor.Texts
/- Plain facts: what the program's number and words give.
   Conditions: none. -/
namespace Go.Proofs.YtblfoelddakelaaDoor.Texts
open Go.RowKit Go.Proofs.YtblfoelddakelaaDoorW.PrintWords Go.Proofs.YtblfoelddakelaaDoorW.PrintMore Go.Proofs.YtblfoelddakelaaDoorW.PrintLast Go.Proofs.YtblfoelddakelaaDoor.Base Go.Proofs.YtblfoelddakelaaDoor.P
theorem wf_le {a : Int} (h : (Lit.int .i64 a).wf = true) : -9223372036854775808 ≤ a ∧ a ≤ 9223372036854775807 := by
  simp [Lit.wf, IntKind.min, IntKind.max, IntKind.signed, IntKind.bits] at h
  omega

theorem number_is (a : Int) (h0 : -9223372036854775808 ≤ a) (h1 : a ≤ 9223372036854775807) : impl_number.f a = some (S (Lib.itoa a)) := by
  unfold impl_number.f
  rw [if_pos ⟨h0, h1⟩]
  rfl
theorem words_is (l : List (List UInt8)) (h : (Lib.join l [32]).length ≤ 1000000 ∧ l.length ≤ 1000) : impl_words.f (l.map S) = some (S (Lib.join l [32])) := by
  unfold impl_words.f
  have e : (l.map S).map (·.data.toList) = l := by rw [List.map_map]; exact (List.map_congr_left fun x _ => S_data x).trans (List.map_id _)
  rw [e, if_pos ⟨by omega, by rw [List.length_map]; omega⟩]
  rfl

theorem words4 (a b c d : List UInt8) (h : a.length + b.length + c.length + d.length ≤ 10000) : impl_words.f [S a, S b, S c, S d] = some (S (a ++ [32] ++ b ++ [32] ++ c ++ [32] ++ d)) := by
  have := words_is [a, b, c, d] ⟨by simp [Lib.join, List.intercalate]; omega, by simp⟩
  rw [show [a, b, c, d].map S = [S a, S b, S c, S d] from rfl] at this
  rw [this]
  simp [Lib.join, List.intercalate]

end Go.Proofs.YtblfoelddakelaaDoor.Texts
/- SideText of the program: what text it gives.
   Conditions: none. -/
namespace Go.Proofs.YtblfoelddakelaaDoor.Texts
set_option linter.unusedSimpArgs false
open Go.RowKit Go.Proofs.YtblfoelddakelaaDoorW.PrintWords Go.Proofs.YtblfoelddakelaaDoorW.PrintMore Go.Proofs.YtblfoelddakelaaDoorW.PrintLast Go.Proofs.YtblfoelddakelaaDoor.Base Go.Proofs.YtblfoelddakelaaDoor.P

def polTx (p : S67) : List UInt8 := [32] ++ Lib.itoa p.f0 ++ [58] ++ Lib.itoa p.f1 ++ [58] ++ Lib.itoa p.f2
def sideTx (l : List S67) (sel win : Int) : List UInt8 :=
  (List.range' 0 l.length).foldl (fun s (i : Nat) => s ++ polTx (rd_T67 l i)) (Lib.itoa sel ++ [32] ++ Lib.itoa win)

theorem words2 (a b : List UInt8) (h : a.length + b.length ≤ 10000) : impl_words.f [S a, S b] = some (S (a ++ [32] ++ b)) := by
  have := words_is [a, b] ⟨by simp [Lib.join, List.intercalate]; omega, by simp⟩
  rw [show [a, b].map S = [S a, S b] from rfl] at this
  rw [this]
  simp [Lib.join, List.intercalate]

theorem sideText_impl (l : List S67) (sel win : Int) (h : sideOk l sel win = true) : Ev (fun k => impl_SideText.f k l sel win) (S (sideTx l sel win)) := by
  obtain ⟨hn, hs, hw, hp⟩ := sideOk_facts h
  unfold impl_SideText.f
  have e0 := sideOk_impl l (by omega) sel win
  rw [h] at e0
  have l1 := itoa_len sel (by omega) (by omega)
  have l2 := itoa_len win (by omega) (by omega)
  refine Ev.bind e0 (Ev.pos rfl (Ev.bind0 (number_is sel (by omega) (by omega)) (Ev.bind0 (number_is win (by omega) (by omega)) (Ev.bind0 (words2 _ _ (by omega)) ?_))))
  refine ev_fold (n := l.length) (F := fun k s i => impl_SideText.l0 k (S s) l (l.length : Int) i) (out := S) (st := fun s (i : Nat) => s ++ polTx (rd_T67 l i)) (Inv := fun s i => s.length ≤ 100 + 100 * i) ?_ ?_ l.length 0 _ (by omega) ?_
  · intro s _
    exact Ev.step (fun k => rfl) (Ev.neg (by omega) (Ev.now _))
  · intro s i hi hI
    obtain ⟨p0, p1, p2⟩ := hp i hi
    have n0 := itoa_len _ (show -9223372036854775808 ≤ (rd_T67 l i).f0 by omega) (by omega)
    have n1 := itoa_len _ (show -9223372036854775808 ≤ (rd_T67 l i).f1 by omega) (by omega)
    have n2 := itoa_len _ (show -9223372036854775808 ≤ (rd_T67 l i).f2 by omega) (by omega)
    have hI' : s.length ≤ 500 := by have : s.length ≤ 100 + 100 * i := hI; omega
    refine ⟨?_, fun r hr => ?_⟩
    · show (s ++ polTx _).length ≤ _
      simp only [polTx, List.length_append, List.length_cons, List.length_nil]
      have : s.length ≤ 100 + 100 * i := hI
      omega
    · refine Ev.step (fun k => rfl) ?_
      refine Ev.pos (by omega) (Ev.pos (by omega) (Ev.pos (by omega) (Ev.bind0 (number_is _ (by omega) (by omega)) (Ev.pos ?_ (Ev.pos ?_ (Ev.bind0 (number_is _ (by omega) (by omega)) (Ev.pos ?_ (Ev.pos ?_ (Ev.bind0 (number_is _ (by omega) (by omega)) (Ev.pos ?_ (Ev.pos ?_ ?_)))))))))))
      · (simp only [S_lit, S_app, S_size, List.length_append, List.length_cons, List.length_nil]; omega)
      · (simp only [S_lit, S_app, S_size, List.length_append, List.length_cons, List.length_nil]; omega)
      · (simp only [S_lit, S_app, S_size, List.length_append, List.length_cons, List.length_nil]; omega)
      · (simp only [S_lit, S_app, S_size, List.length_append, List.length_cons, List.length_nil]; omega)
      · (simp only [S_lit, S_app, S_size, List.length_append, List.length_cons, List.length_nil]; omega)
      · (simp only [S_lit, S_app, S_size, List.length_append, List.length_cons, List.length_nil]; omega)
      · simp only [S_lit, S_app]
        rw [wr_succ hi (by omega)]
        have e : s ++ ([32] ++ Lib.itoa (rd_T67 l i).f0 ++ [58] ++ Lib.itoa (rd_T67 l i).f1 ++ [58] ++ Lib.itoa (rd_T67 l i).f2) = s ++ polTx (rd_T67 l i) := rfl
        rw [e]
        exact hr
  · simp only [List.length_append, List.length_cons, List.length_nil]; omega

end Go.Proofs.YtblfoelddakelaaDoor.Texts
/- ParseSide of the program and of the reference: one answer for every text.
   Conditions: none. -/
namespace Go.Proofs.YtblfoelddakelaaDoor.Texts
set_option linter.unusedSimpArgs false
open Go.RowKit Go.Proofs.YtblfoelddakelaaDoorW.PrintWords Go.Proofs.YtblfoelddakelaaDoorW.PrintMore Go.Proofs.YtblfoelddakelaaDoorW.PrintLast Go.Proofs.YtblfoelddakelaaDoor.Base Go.Proofs.YtblfoelddakelaaDoor.P

/-! ### The text of a Side, in words -/
def polW (p : S67) : List UInt8 := Lib.join [Lib.itoa p.f0, Lib.itoa p.f1, Lib.itoa p.f2] [58]
def sideWs (l : List S67) (sel win : Int) : List (List UInt8) := Lib.itoa sel :: Lib.itoa win :: l.map polW
theorem polW_eq (p : S67) : [32] ++ polW p = polTx p := by simp [polW, polTx, Lib.join, List.intercalate]
theorem fold_flat {α : Type} (f : α → List UInt8) : ∀ (r : List α) (s : List UInt8), r.foldl (fun s i => s ++ f i) s = s ++ (r.map f).flatten
  | [], s => by simp
  | a :: r, s => by rw [List.foldl_cons, fold_flat f r]; simp
theorem sideTx_flat (l : List S67) (sel win : Int) : sideTx l sel win = Lib.itoa sel ++ [32] ++ Lib.itoa win ++ (l.map polTx).flatten := by
  unfold sideTx
  rw [fold_flat (fun (i : Nat) => polTx (rd_T67 l i)), ← List.range_eq_range']
  congr 2
  exact map_range_getD l _ polTx
theorem sideTx_join (l : List S67) (sel win : Int) : sideTx l sel win = Lib.join (sideWs l sel win) [32] := by
  rw [sideTx_flat, sideWs, Lib.join_cons]
  unfold Lib.joinTail
  rw [List.map_cons, List.flatten_cons, List.map_map]
  have : (fun x => [32] ++ x) ∘ polW = polTx := by funext p; exact polW_eq p
  rw [show ((fun x : List UInt8 => [32] ++ x) ∘ polW) = polTx from this]
  simp
def polOk (p : S67) : Prop := (0 ≤ p.f0 ∧ p.f0 ≤ 1) ∧ (1 ≤ p.f1 ∧ p.f1 ≤ 1000) ∧ (1 ≤ p.f2 ∧ p.f2 ≤ 1000)
theorem sideOk_mem {l : List S67} {sel win : Int} (h : sideOk l sel win = true) : ∀ p ∈ l, polOk p := by
  obtain ⟨_, _, _, hp⟩ := sideOk_facts h
  intro p hm
  obtain ⟨i, hi, rfl⟩ := List.getElem_of_mem hm
  have := hp i hi
  have e : rd_T67 l (i : Int) = l[i] := by simp [rd_T67, List.getD_eq_getElem?_getD, hi]
  rw [e] at this
  exact this
theorem itoa_no (x : Int) (h0 : 0 ≤ x) : (32 : UInt8) ∉ Lib.itoa x ∧ (58 : UInt8) ∉ Lib.itoa x := ⟨itoa_noc x h0 32 (.inl (by decide)), itoa_noc x h0 58 (.inr (by decide))⟩
theorem polW_no {p : S67} (h : polOk p) : (32 : UInt8) ∉ polW p := by
  obtain ⟨⟨a, _⟩, ⟨b, _⟩, ⟨c, _⟩⟩ := h
  have ea := (itoa_no p.f0 a).1
  have eb := (itoa_no p.f1 (by omega)).1
  have ec := (itoa_no p.f2 (by omega)).1
  unfold polW
  simp [Lib.join, List.intercalate, ea, eb, ec]
theorem polW_sp {p : S67} (h : polOk p) : sp 58 [] (polW p) = [Lib.itoa p.f0, Lib.itoa p.f1, Lib.itoa p.f2] := by
  obtain ⟨⟨a, _⟩, ⟨b, _⟩, ⟨c, _⟩⟩ := h
  refine sp_of_join 58 _ (by simp) ?_
  intro w hw
  simp only [List.mem_cons, List.not_mem_nil, or_false] at hw
  rcases hw with rfl | rfl | rfl
  · exact (itoa_no _ a).2
  · exact (itoa_no _ (by omega)).2
  · exact (itoa_no _ (by omega)).2
theorem sideTx_sp {l : List S67} {sel win : Int} (h : sideOk l sel win = true) : sp 32 [] (sideTx l sel win) = sideWs l sel win := by
  obtain ⟨_, ⟨s0, _⟩, ⟨w0, _⟩, _⟩ := sideOk_facts h
  rw [sideTx_join]
  refine sp_of_join 32 _ (by simp [sideWs]) ?_
  intro w hw
  unfold sideWs at hw
  rw [List.mem_cons, List.mem_cons, List.mem_map] at hw
  rcases hw with rfl | rfl | ⟨p, hp, rfl⟩
  · exact (itoa_no _ s0).1
  · exact (itoa_no _ w0).1
  · exact polW_no (sideOk_mem h p hp)
theorem sideTx_short {l : List S67} {sel win : Int} (h : sideOk l sel win = true) : (sideTx l sel win).length ≤ 60 := by
  obtain ⟨hn, ⟨s0, s1⟩, ⟨w0, w1⟩, hp⟩ := sideOk_facts h
  have l1 := itoa_len1 sel s0 (by omega)
  have l2 := itoa_len4 win w0 w1
  have key := fold_inv (n := l.length) (st := fun s (i : Nat) => s ++ polTx (rd_T67 l i)) (Inv := fun s i => s.length ≤ 10 + 12 * i) ?_ l.length 0 (Lib.itoa sel ++ [32] ++ Lib.itoa win) (by omega) ?_
  · have : (sideTx l sel win).length ≤ 10 + 12 * l.length := key
    omega
  · intro s i hi hI
    obtain ⟨⟨p0, p1⟩, ⟨p2, p3⟩, ⟨p4, p5⟩⟩ := hp i hi
    have n0 := itoa_len1 _ p0 (by omega)
    have n1 := itoa_len4 _ (show 0 ≤ (rd_T67 l i).f1 by omega) p3
    have n2 := itoa_len4 _ (show 0 ≤ (rd_T67 l i).f2 by omega) p5
    show (s ++ polTx _).length ≤ _
    simp only [polTx, List.length_append, List.length_cons, List.length_nil]
    have : s.length ≤ 10 + 12 * i := hI
    omega
  · simp only [List.length_append, List.length_cons, List.length_nil]; omega

/-! ### The program -/
def none4 : List S67 × Int × Int × Bool := ([], 0, 0, false)
def at_ (w : List UInt8) : Int := impl_atoi.of (Lib.atoiAll w)
theorem atoi_at (w : List UInt8) (h : w.length ≤ 1048576) : impl_atoi.f (S w) = some (at_ w) := by
  unfold impl_atoi.f
  rw [if_pos (by rw [S_size]; omega), S_data]
  rfl
theorem at_itoa (x : Int) (h0 : 0 ≤ x) (h1 : x ≤ 1000) : at_ (Lib.itoa x) = x := by
  unfold at_
  rw [atoi_itoa x h0 (by omega)]
  rfl
def ipol (w : List UInt8) : Option S67 := match sp 58 [] w with
  | [a, b, c] => some ⟨at_ a, at_ b, at_ c⟩
  | _ => none
def iLoop (T : List UInt8) (sel win : Int) : List (List UInt8) → List S67 → List S67 × Int × Int × Bool
  | [], s => if sideOk s sel win = true ∧ sideTx s sel win = T then (s, sel, win, true) else none4
  | w :: ps, s => match ipol w with
    | some p => iLoop T sel win ps (s ++ [p])
    | none => none4
theorem rdOf_S (ps : List (List UInt8)) (i : Nat) (h : i < ps.length) : rdOf ByteArray.empty (ps.map S) (i : Int) = S ps[i] := by
  unfold rdOf
  simp [List.getD_eq_getElem?_getD, h]
theorem impl_loop (T : List UInt8) (sel win : Int) (ps : List (List UInt8)) (hp : ∀ w ∈ ps, w.length ≤ 1048576) (hn : ps.length ≤ 100) : ∀ (d i : Nat) (s : List S67), i + d = ps.length → s.length ≤ i →
    Ev (fun k => impl_ParseSide.l0 k (S T) (ps.map S) ((ps.map S).length : Int) (i : Int) s sel win) (iLoop T sel win (ps.drop i) s) := by
  intro d
  induction d with
  | zero =>
    intro i s hi hs
    have hd : ps.drop i = [] := List.drop_eq_nil_of_le (by omega)
    rw [hd, iLoop]
    refine Ev.step (fun k => rfl) (Ev.neg (by rw [List.length_map]; omega) ?_)
    refine Ev.bind (sideOk_impl s (by omega) sel win) ?_
    cases h : sideOk s sel win with
    | false =>
      have e : (if false = true ∧ sideTx s sel win = T then (s, sel, win, true) else none4) = none4 := if_neg (fun g => by cases g.1)
      rw [e]
      exact Ev.neg (by decide) (Ev.now _)
    | true =>
      refine Ev.pos rfl (Ev.bind (sideText_impl s sel win h) ?_)
      rw [S_toList, S_toList]
      by_cases hT : sideTx s sel win = T
      · have e : (if true = true ∧ sideTx s sel win = T then (s, sel, win, true) else none4) = (s, sel, win, true) := if_pos ⟨rfl, hT⟩
        rw [e]
        exact Ev.pos hT (Ev.now _)
      · have e : (if true = true ∧ sideTx s sel win = T then (s, sel, win, true) else none4) = none4 := if_neg (fun g => hT g.2)
        rw [e]
        exact Ev.neg hT (Ev.now _)
  | succ d ih =>
    intro i s hi hs
    have hil : i < ps.length := by omega
    have hdr : ps.drop i = ps[i] :: ps.drop (i + 1) := List.drop_eq_getElem_cons hil
    have hw : ps[i].length ≤ 1048576 := hp _ (List.getElem_mem hil)
    have hsp := split_is ps[i] 58 hw
    have hm := sp_mem 58 ps[i] []
    rw [hdr, iLoop]
    refine Ev.step (fun k => rfl) (Ev.pos (by rw [List.length_map]; omega) (Ev.pos (by omega) (Ev.pos (by rw [List.length_map]; omega) ?_)))
    rw [rdOf_S ps i hil]
    refine Ev.bind0 hsp ?_
    unfold ipol
    rcases hq : sp 58 [] ps[i] with _ | ⟨a, _ | ⟨b, _ | ⟨c, _ | ⟨e, r⟩⟩⟩⟩
    · exact Ev.neg (by simp) (Ev.now _)
    · exact Ev.neg (by simp) (Ev.now _)
    · exact Ev.neg (by simp) (Ev.now _)
    · rw [hq] at hm
      have ha : a.length ≤ 1048576 := by have := hm a (by simp); simp only [List.length_nil] at this; omega
      have hb : b.length ≤ 1048576 := by have := hm b (by simp); simp only [List.length_nil] at this; omega
      have hc : c.length ≤ 1048576 := by have := hm c (by simp); simp only [List.length_nil] at this; omega
      refine Ev.pos (by simp) (Ev.pos (by simp) (Ev.bind0 (show impl_atoi.f (rdOf ByteArray.empty ([a, b, c].map S) 0) = some (at_ a) from atoi_at a ha) (Ev.pos (by simp) (Ev.bind0 (show impl_atoi.f (rdOf ByteArray.empty ([a, b, c].map S) 1) = some (at_ b) from atoi_at b hb) (Ev.pos (by simp) (Ev.bind0 (show impl_atoi.f (rdOf ByteArray.empty ([a, b, c].map S) 2) = some (at_ c) from atoi_at c hc) (Ev.pos (by omega) ?_)))))))
      have hwr : wrap64 ((i : Int) + 1) = ((i + 1 : Nat) : Int) := wr_succ hil (by omega)
      rw [hwr]
      exact ih (i + 1) (s ++ [⟨at_ a, at_ b, at_ c⟩]) (by omega) (by simp; omega)
    · exact Ev.neg (by simp; omega) (Ev.now _)
def iParse (T : List UInt8) : List S67 × Int × Int × Bool := match sp 32 [] T with
  | a :: b :: ps => if ps.length ≤ 3 then iLoop T (at_ a) (at_ b) ps [] else none4
  | _ => none4
theorem parse_impl (T : List UInt8) (hT : T.length ≤ 1048576) : Ev (fun k => impl_ParseSide.f k (S T)) (iParse T) := by
  unfold impl_ParseSide.f iParse
  have hsp := split_is T 32 hT
  have hm := sp_mem 32 T []
  refine Ev.bind0 hsp ?_
  rw [in_impl]
  refine Ev.bind0 rfl ?_
  rcases hq : sp 32 [] T with _ | ⟨a, _ | ⟨b, ps⟩⟩
  · exact Ev.neg (by simp) (Ev.now _)
  · exact Ev.neg (by simp) (Ev.now _)
  · rw [hq] at hm
    have ha : a.length ≤ 1048576 := by have := hm a (by simp); simp only [List.length_nil] at this; omega
    have hb : b.length ≤ 1048576 := by have := hm b (by simp); simp only [List.length_nil] at this; omega
    have hp : ∀ w ∈ ps, w.length ≤ 1048576 := fun w hw => by have := hm w (by simp [hw]); simp only [List.length_nil] at this; omega
    simp only []
    by_cases h3 : ps.length ≤ 3
    · rw [if_pos h3]
      refine Ev.pos (decide_eq_true (by simp only [List.map_cons, List.length_cons, List.length_map]; omega)) (Ev.pos (by simp only [List.map_cons, List.length_cons, List.length_map]; omega) (Ev.bind0 (show impl_atoi.f (rdOf ByteArray.empty ((a :: b :: ps).map S) 0) = some (at_ a) from atoi_at a ha) (Ev.pos (by simp only [List.map_cons, List.length_cons, List.length_map]; omega) (Ev.bind0 (show impl_atoi.f (rdOf ByteArray.empty ((a :: b :: ps).map S) 1) = some (at_ b) from atoi_at b hb) (Ev.pos (by simp only [List.map_cons, List.length_cons, List.length_map]; omega) (Ev.bind0 rfl ?_))))))
      exact impl_loop T (at_ a) (at_ b) ps hp (by omega) ps.length 0 [] (by omega) (by simp)
    · rw [if_neg h3]
      exact Ev.neg (by rw [decide_eq_true_eq]; simp only [List.map_cons, List.length_cons, List.length_map]; omega) (Ev.now _)

/-! ### The reference -/
theorem rd_ex (w : List UInt8) : ∃ r : Int × Bool, Ev (fun k => spec_l01Read.f k (S w)) r ∧ (r.2 = true → w = Lib.itoa r.1) := by
  obtain ⟨x, b, e, h⟩ := read_any w
  exact ⟨(x, b), e, fun hb => (h hb).1⟩
noncomputable def rdF (w : List UInt8) : Int × Bool := Classical.choose (rd_ex w)
theorem rdF_ev (w : List UInt8) : Ev (fun k => spec_l01Read.f k (S w)) (rdF w) := (Classical.choose_spec (rd_ex w)).1
theorem rdF_of (w : List UInt8) (h : (rdF w).2 = true) : w = Lib.itoa (rdF w).1 := (Classical.choose_spec (rd_ex w)).2 h
theorem rdF_itoa (x : Int) (h0 : 0 ≤ x) (h1 : x ≤ 1000) : rdF (Lib.itoa x) = (x, true) := Ev.unique (rdF_ev _) (read_itoa x h0 (by omega))
noncomputable def spol (w : List UInt8) : Option S67 := match sp 58 [] w with
  | [a, b, c] => if (rdF a).2 = true ∧ (rdF b).2 = true ∧ (rdF c).2 = true then some ⟨(rdF a).1, (rdF b).1, (rdF c).1⟩ else none
  | _ => none
noncomputable def sLoop (sel win : Int) : List (List UInt8) → List S67 → List S67 × Int × Int × Bool
  | [], s => if sideOk s sel win = true then (s, sel, win, true) else none4
  | w :: ps, s => match spol w with
    | some p => sLoop sel win ps (s ++ [p])
    | none => none4
theorem w01 : wrap64 (0 + 1) = 1 := by unfold wrap64; omega
theorem w12 : wrap64 (1 + 1) = 2 := by unfold wrap64; omega
theorem w23 : wrap64 (2 + 1) = 3 := by unfold wrap64; omega
theorem spec_loop (sel win : Int) (ps : List (List UInt8)) (hp : ∀ w ∈ ps, w.length ≤ 1048576) (hn : ps.length ≤ 100) : ∀ (d i : Nat) (s : List S67), i + d = ps.length → s.length ≤ i →
    Ev (fun k => spec_ParseSide.l0 k (ps.map S) (i : Int) 0 0 s sel win) (sLoop sel win (ps.drop i) s) := by
  intro d
  induction d with
  | zero =>
    intro i s hi hs
    have hd : ps.drop i = [] := List.drop_eq_nil_of_le (by omega)
    rw [hd, sLoop]
    refine Ev.step (fun k => spec_ParseSide.l0.eq_2 ..) (Ev.neg (by rw [List.length_map]; omega) ?_)
    refine Ev.bind (sideOk_spec s sel win) ?_
    cases h : sideOk s sel win with
    | false =>
      have e : (if false = true then (s, sel, win, true) else none4) = none4 := if_neg (by decide)
      rw [e]
      exact Ev.neg (fun g => by cases g) (Ev.now _)
    | true =>
      have e : (if true = true then (s, sel, win, true) else none4) = (s, sel, win, true) := if_pos rfl
      rw [e]
      exact Ev.pos rfl (Ev.now _)
  | succ d ih =>
    intro i s hi hs
    have hil : i < ps.length := by omega
    have hdr : ps.drop i = ps[i] :: ps.drop (i + 1) := List.drop_eq_getElem_cons hil
    have hw : ps[i].length ≤ 1048576 := hp _ (List.getElem_mem hil)
    have hsp := parts_is ps[i] hw 58
    rw [show (((58 : UInt8).toNat : Nat) : Int) = 58 from rfl] at hsp
    rw [hdr, sLoop]
    refine Ev.step (fun k => spec_ParseSide.l0.eq_2 ..) (Ev.pos (by rw [List.length_map]; omega) (Ev.pos (by omega) ?_))
    rw [rdOf_S ps i hil]
    refine Ev.bind hsp ?_
    unfold spol
    rcases hq : sp 58 [] ps[i] with _ | ⟨a, _ | ⟨b, _ | ⟨c, _ | ⟨e, r⟩⟩⟩⟩
    · exact Ev.neg (by simp) (Ev.now _)
    · exact Ev.neg (by simp) (Ev.now _)
    · exact Ev.neg (by simp) (Ev.now _)
    · refine Ev.pos (by simp) ?_
      have ea := rdF_ev a
      have eb := rdF_ev b
      have ec := rdF_ev c
      simp only []
      refine Ev.step (fun k => spec_ParseSide.l1.eq_2 ..) (Ev.pos (by decide) (Ev.pos (by decide) (Ev.pos (by simp) (Ev.bind ea ?_))))
      by_cases ha : (rdF a).2 = true
      · refine Ev.pos ha (Ev.pos (by simp) ?_)
        rw [w01]
        refine Ev.step (fun k => spec_ParseSide.l1.eq_2 ..) (Ev.pos (by decide) (Ev.pos (by decide) (Ev.pos (by simp) (Ev.bind eb ?_))))
        by_cases hb : (rdF b).2 = true
        · refine Ev.pos hb (Ev.pos (by simp) ?_)
          rw [w12]
          refine Ev.step (fun k => spec_ParseSide.l1.eq_2 ..) (Ev.pos (by decide) (Ev.pos (by decide) (Ev.pos (by simp) (Ev.bind ec ?_))))
          by_cases hc : (rdF c).2 = true
          · refine Ev.pos hc (Ev.pos (by simp) ?_)
            rw [w23]
            refine Ev.step (fun k => spec_ParseSide.l1.eq_2 ..) (Ev.neg (by decide) (Ev.pos (by simp) (Ev.pos (by simp) (Ev.pos (by simp) (Ev.pos (by omega) ?_)))))
            have hwr : wrap64 ((i : Int) + 1) = ((i + 1 : Nat) : Int) := wr_succ hil (by omega)
            rw [hwr, if_pos ⟨ha, hb, hc⟩]
            exact ih (i + 1) (s ++ [⟨(rdF a).1, (rdF b).1, (rdF c).1⟩]) (by omega) (by simp; omega)
          · rw [if_neg (fun h => hc h.2.2)]
            exact Ev.neg hc (Ev.now _)
        · rw [if_neg (fun h => hb h.2.1)]
          exact Ev.neg hb (Ev.now _)
      · rw [if_neg (fun h => ha h.1)]
        exact Ev.neg ha (Ev.now _)
    · exact Ev.neg (by simp; omega) (Ev.now _)
noncomputable def sParse (T : List UInt8) : List S67 × Int × Int × Bool := if 60 < T.length then none4 else match sp 32 [] T with
  | a :: b :: ps => if ps.length ≤ 3 ∧ (rdF a).2 = true ∧ (rdF b).2 = true then sLoop (rdF a).1 (rdF b).1 ps [] else none4
  | _ => none4
theorem parse_spec (T : List UInt8) : Ev (fun k => spec_ParseSide.f k (S T)) (sParse T) := by
  unfold spec_ParseSide.f sParse
  by_cases h60 : 60 < T.length
  · rw [if_pos h60]
    exact Ev.pos (by rw [S_size]; omega) (Ev.now _)
  · rw [if_neg h60]
    refine Ev.neg (by rw [S_size]; omega) ?_
    have hsp := parts_is T (by omega) 32
    rw [show (((32 : UInt8).toNat : Nat) : Int) = 32 from rfl] at hsp
    have hm := sp_mem 32 T []
    refine Ev.bind hsp ?_
    rcases hq : sp 32 [] T with _ | ⟨a, _ | ⟨b, ps⟩⟩
    · exact Ev.pos (by simp) (Ev.step (fun k => spec_ParseSide.j0.eq_2 ..) (Ev.pos rfl (Ev.now _)))
    · exact Ev.pos (by simp) (Ev.step (fun k => spec_ParseSide.j0.eq_2 ..) (Ev.pos rfl (Ev.now _)))
    · rw [hq] at hm
      have hp : ∀ w ∈ ps, w.length ≤ 1048576 := fun w hw => by have := hm w (by simp [hw]); simp only [List.length_nil] at this; omega
      refine Ev.neg (by simp only [List.map_cons, List.length_cons, List.length_map]; omega) (Ev.step (fun k => spec_ParseSide.j0.eq_2 ..) ?_)
      simp only []
      by_cases h3 : ps.length ≤ 3
      · refine Ev.neg (by rw [decide_eq_true_eq]; simp only [List.map_cons, List.length_cons, List.length_map]; omega) (Ev.pos (by simp only [List.map_cons, List.length_cons, List.length_map]; omega) (Ev.bind (rdF_ev a) (Ev.pos (by simp only [List.map_cons, List.length_cons, List.length_map]; omega) (Ev.bind (rdF_ev b) ?_))))
        by_cases ha : (rdF a).2 = true
        · refine Ev.pos ha (Ev.step (fun k => spec_ParseSide.j1.eq_2 ..) ?_)
          by_cases hb : (rdF b).2 = true
          · rw [if_pos ⟨h3, ha, hb⟩]
            refine Ev.neg (by rw [hb]; decide) ?_
            have h := spec_loop (rdF a).1 (rdF b).1 (a :: b :: ps) (fun w hw => by have := hm w hw; simp only [List.length_nil] at this; omega) (by simp only [List.length_cons]; omega) ps.length 2 [] (by simp only [List.length_cons]; omega) (by simp)
            exact h
          · rw [if_neg (fun h => hb h.2.2)]
            exact Ev.pos (by rw [Bool.eq_false_iff.mpr hb]; rfl) (Ev.now _)
        · rw [if_neg (fun h => ha h.2.1)]
          exact Ev.neg ha (Ev.step (fun k => spec_ParseSide.j1.eq_2 ..) (Ev.pos rfl (Ev.now _)))
      · rw [if_neg (fun h => h3 h.1)]
        exact Ev.pos (decide_eq_true (by simp only [List.map_cons, List.length_cons, List.length_map]; omega)) (Ev.now _)

/-! ### They are one -/
theorem iLoop_sound (T : List UInt8) (sel win : Int) : ∀ (ps : List (List UInt8)) (s : List S67), iLoop T sel win ps s = none4 ∨ ∃ l, sideOk l sel win = true ∧ sideTx l sel win = T ∧ iLoop T sel win ps s = (l, sel, win, true)
  | [], s => by
    rw [iLoop]
    by_cases h : sideOk s sel win = true ∧ sideTx s sel win = T
    · rw [if_pos h]; exact .inr ⟨s, h.1, h.2, rfl⟩
    · rw [if_neg h]; exact .inl rfl
  | w :: ps, s => by
    rw [iLoop]
    cases ipol w with
    | none => exact .inl rfl
    | some p => exact iLoop_sound T sel win ps (s ++ [p])
theorem iLoop_fwd (T : List UInt8) (sel win : Int) : ∀ (m s : List S67), (∀ p ∈ m, polOk p) → sideOk (s ++ m) sel win = true → sideTx (s ++ m) sel win = T → iLoop T sel win (m.map polW) s = (s ++ m, sel, win, true)
  | [], s, _, h1, h2 => by
    rw [List.append_nil] at h1 h2 ⊢
    rw [List.map_nil, iLoop, if_pos ⟨h1, h2⟩]
  | p :: m, s, hm, h1, h2 => by
    have hp := hm p (by simp)
    have e : ipol (polW p) = some p := by
      unfold ipol
      rw [polW_sp hp]
      obtain ⟨⟨a0, a1⟩, ⟨b0, b1⟩, ⟨c0, c1⟩⟩ := hp
      simp only [at_itoa p.f0 a0 (by omega), at_itoa p.f1 (by omega) b1, at_itoa p.f2 (by omega) c1]
    rw [List.map_cons, iLoop, e]
    have h := iLoop_fwd T sel win m (s ++ [p]) (fun q hq => hm q (by simp [hq])) (by simpa using h1) (by simpa using h2)
    simpa using h
theorem spol_of {w : List UInt8} {p : S67} (h : spol w = some p) : w = polW p := by
  have hj := sp_join 58 w []
  unfold spol at h
  rcases hq : sp 58 [] w with _ | ⟨a, _ | ⟨b, _ | ⟨c, _ | ⟨e, r⟩⟩⟩⟩ <;> rw [hq] at h hj <;> simp only [] at h
  · cases h
  · cases h
  · cases h
  · by_cases g : (rdF a).2 = true ∧ (rdF b).2 = true ∧ (rdF c).2 = true
    · rw [if_pos g] at h
      obtain rfl := Option.some.inj h
      unfold polW
      simp only []
      rw [← rdF_of a g.1, ← rdF_of b g.2.1, ← rdF_of c g.2.2, hj]
      rfl
    · rw [if_neg g] at h; cases h
  · cases h
theorem sLoop_sound (sel win : Int) : ∀ (ps : List (List UInt8)) (s : List S67), sLoop sel win ps s = none4 ∨ ∃ m, ps = m.map polW ∧ sideOk (s ++ m) sel win = true ∧ sLoop sel win ps s = (s ++ m, sel, win, true)
  | [], s => by
    rw [sLoop]
    by_cases h : sideOk s sel win = true
    · rw [if_pos h]; exact .inr ⟨[], rfl, by simpa using h, by simp⟩
    · rw [if_neg h]; exact .inl rfl
  | w :: ps, s => by
    rw [sLoop]
    cases hw : spol w with
    | none => exact .inl rfl
    | some p =>
      rcases sLoop_sound sel win ps (s ++ [p]) with h | ⟨m, h1, h2, h3⟩
      · exact .inl h
      · refine .inr ⟨p :: m, by rw [List.map_cons, ← h1, ← spol_of hw], by simpa using h2, ?_⟩
        simpa using h3
theorem sLoop_fwd (sel win : Int) : ∀ (m s : List S67), (∀ p ∈ m, polOk p) → sideOk (s ++ m) sel win = true → sLoop sel win (m.map polW) s = (s ++ m, sel, win, true)
  | [], s, _, h1 => by
    rw [List.append_nil] at h1 ⊢
    rw [List.map_nil, sLoop, if_pos h1]
  | p :: m, s, hm, h1 => by
    have hp := hm p (by simp)
    have e : spol (polW p) = some p := by
      unfold spol
      rw [polW_sp hp]
      obtain ⟨⟨a0, a1⟩, ⟨b0, b1⟩, ⟨c0, c1⟩⟩ := hp
      simp only [rdF_itoa p.f0 a0 (by omega), rdF_itoa p.f1 (by omega) b1, rdF_itoa p.f2 (by omega) c1]
      rfl
    rw [List.map_cons, sLoop, e]
    have h := sLoop_fwd sel win m (s ++ [p]) (fun q hq => hm q (by simp [hq])) (by simpa using h1)
    simpa using h
theorem parse_fwd {l : List S67} {sel win : Int} (h : sideOk l sel win = true) : iParse (sideTx l sel win) = (l, sel, win, true) ∧ sParse (sideTx l sel win) = (l, sel, win, true) := by
  obtain ⟨hn, ⟨s0, s1⟩, ⟨w0, w1⟩, _⟩ := sideOk_facts h
  have hl : (l.map polW).length ≤ 3 := by rw [List.length_map]; exact hn
  constructor
  · unfold iParse
    rw [sideTx_sp h]
    unfold sideWs
    simp only []
    rw [if_pos hl, at_itoa sel s0 (by omega), at_itoa win w0 w1]
    exact iLoop_fwd _ sel win l [] (sideOk_mem h) h rfl
  · unfold sParse
    have := sideTx_short h
    rw [if_neg (by omega), sideTx_sp h]
    unfold sideWs
    simp only []
    rw [rdF_itoa sel s0 (by omega), rdF_itoa win w0 w1, if_pos ⟨hl, rfl, rfl⟩]
    exact sLoop_fwd sel win l [] (sideOk_mem h) h
theorem iParse_sound (T : List UInt8) : iParse T = none4 ∨ ∃ l sel win, sideOk l sel win = true ∧ sideTx l sel win = T ∧ iParse T = (l, sel, win, true) := by
  unfold iParse
  rcases sp 32 [] T with _ | ⟨a, _ | ⟨b, ps⟩⟩
  · exact .inl rfl
  · exact .inl rfl
  · simp only []
    by_cases h3 : ps.length ≤ 3
    · rw [if_pos h3]
      rcases iLoop_sound T (at_ a) (at_ b) ps [] with h | ⟨l, h1, h2, h4⟩
      · exact .inl h
      · exact .inr ⟨l, _, _, h1, h2, h4⟩
    · rw [if_neg h3]; exact .inl rfl
theorem sParse_sound (T : List UInt8) : sParse T = none4 ∨ ∃ l sel win, sideOk l sel win = true ∧ sideTx l sel win = T ∧ sParse T = (l, sel, win, true) := by
  unfold sParse
  by_cases h60 : 60 < T.length
  · rw [if_pos h60]; exact .inl rfl
  · rw [if_neg h60]
    have hj := sp_join 32 T []
    rcases hq : sp 32 [] T with _ | ⟨a, _ | ⟨b, ps⟩⟩
    · exact .inl rfl
    · exact .inl rfl
    · rw [hq] at hj
      simp only []
      by_cases h3 : ps.length ≤ 3 ∧ (rdF a).2 = true ∧ (rdF b).2 = true
      · rw [if_pos h3]
        rcases sLoop_sound (rdF a).1 (rdF b).1 ps [] with h | ⟨m, h1, h2, h4⟩
        · exact .inl h
        · refine .inr ⟨m, _, _, h2, ?_, h4⟩
          rw [sideTx_join]
          unfold sideWs
          rw [← h1, ← rdF_of a h3.2.1, ← rdF_of b h3.2.2, hj]
          rfl
      · rw [if_neg h3]; exact .inl rfl
theorem parse_one (T : List UInt8) : sParse T = iParse T := by
  rcases sParse_sound T with h | ⟨l, sel, win, h1, h2, h3⟩
  · rcases iParse_sound T with g | ⟨l, sel, win, g1, g2, g3⟩
    · rw [h, g]
    · subst g2
      rw [(parse_fwd g1).1, (parse_fwd g1).2]
  · subst h2
    rw [(parse_fwd h1).1, (parse_fwd h1).2]
end Go.Proofs.YtblfoelddakelaaDoor.Texts
/- A list of policies that was marked holds the marks.
   Conditions: none. -/
namespace Go.Proofs.YtblfoelddakelaaDoor.Base
open Go.RowKit Go.Proofs.YtblfoelddakelaaDoorW.PrintWords Go.Proofs.YtblfoelddakelaaDoorW.PrintMore Go.Proofs.YtblfoelddakelaaDoor.P
def polMark (m : Int) (j : Nat) : S67 := ⟨m + 3 * j, m + 3 * j + 1, m + 3 * j + 2⟩
theorem ev_markPolicyS (l : List S67) (hl : l.length ≤ 1048576) (m : Int) (h0 : 0 ≤ m) (hm : m ≤ 1099511627776) : Ev (fun k => laws_markPolicyS.f k l m) (m + 3 * l.length, (List.range l.length).map (polMark m)) := by
  unfold laws_markPolicyS.f
  have h := ev_fold (F := fun k s i => laws_markPolicyS.l0 k s.2 s.1 i) (n := l.length) (st := fun s i => (s.1 + 3, s.2.set i (polMark m i))) (out := fun s => s)
    (Inv := fun s i => s.1 = m + 3 * i ∧ s.2.length = l.length) ?_ ?_ l.length 0 (m, l) (by omega) ⟨by simp, rfl⟩
  · have e := ev_fill (F := fun k s i => some s) (n := 0) (β := Int) (g := fun _ => 0) (fun s _ => Ev.now s) (fun s i r hi => absurd hi (Nat.not_lt_zero _)) [] rfl
    clear e
    have key : ∀ d i (s : Int × List S67), i + d = l.length → s.1 = m + 3 * i → s.2.length = l.length → (∀ j, j < i → s.2[j]? = some (polMark m j)) →
        (List.range' i d).foldl (fun s i => (s.1 + 3, s.2.set i (polMark m i))) s = (m + 3 * l.length, (List.range l.length).map (polMark m)) := by
      intro d
      induction d with
      | zero =>
        intro i s hi h1 h2 h3
        obtain rfl : i = l.length := by omega
        refine Prod.ext h1 (List.ext_getElem? fun j => ?_)
        by_cases hj : j < l.length
        · simpa [hj] using h3 j hj
        · show s.2[j]? = _
          rw [List.getElem?_eq_none (by omega)]; simp [hj]
      | succ d ih =>
        intro i s hi h1 h2 h3
        rw [List.range'_succ, List.foldl_cons]
        refine ih (i + 1) _ (by omega) (by show s.1 + 3 = _; rw [h1]; omega) (by show (s.2.set i _).length = _; rw [List.length_set]; exact h2) (fun j hj => ?_)
        show (s.2.set i _)[j]? = _
        by_cases hji : j = i
        · subst hji; rw [List.getElem?_set_self (by omega)]
        · rw [List.getElem?_set_ne (by omega)]; exact h3 j (by omega)
    rw [key l.length 0 (m, l) (by omega) (by simp) rfl (fun j hj => absurd hj (Nat.not_lt_zero _))] at h
    exact h
  · intro s ⟨_, h2⟩
    exact Ev.step (f := fun _ => some s) (fun k => by simp only [laws_markPolicyS.l0]; rw [if_neg (by omega)]) (Ev.now s)
  · intro s i hi ⟨h1, h2⟩
    refine ⟨⟨by show s.1 + 3 = _; rw [h1]; omega, by rw [List.length_set]; exact h2⟩, fun r h => Ev.step (fun k => ?_) h⟩
    have w1 : wrap64 (s.1 + 1) = s.1 + 1 := wr_id (by omega) (by omega)
    have w2 : wrap64 (s.1 + 1 + 1) = s.1 + 2 := by rw [wr_id (by omega) (by omega)]; omega
    have w3 : wrap64 (s.1 + 2 + 1) = s.1 + 3 := by rw [wr_id (by omega) (by omega)]; omega
    have hi2 : i < s.2.length := by omega
    simp only [laws_markPolicyS.l0, Option.bind_some, w1, w2, w3]
    rw [if_pos (by omega), if_pos (by omega), wr_succ hi (by omega)]
    congr 1
    simp only [Int.toNat_natCast, rd_T67, List.set_set, List.getD_eq_getElem?_getD, List.getElem?_set_self hi2, Option.getD_some, polMark, h1]
theorem ev_heldPolicyS (n : Nat) (hl : n ≤ 1048576) (m : Int) (h0 : 0 ≤ m) (hm : m ≤ 1099511627776) : Ev (fun k => laws_heldPolicyS.f k ((List.range n).map (polMark m)) m) (m + 3 * n) := by
  unfold laws_heldPolicyS.f
  have h := ev_fold (F := fun k s i => laws_heldPolicyS.l0 k ((List.range n).map (polMark m)) s i) (n := n) (st := fun s i => s + 3) (out := fun s => s)
    (Inv := fun s i => s = m + 3 * i) ?_ ?_ n 0 m (by omega) (by simp)
  · have e := fold_inv (n := n) (st := fun (s : Int) (i : Nat) => s + 3) (Inv := fun s i => s = m + 3 * i) (fun s i _ h => by rw [h]; omega) n 0 m (by omega) (by simp)
    rw [e] at h
    exact h
  · intro s _
    exact Ev.step (f := fun _ => some s) (fun k => by simp only [laws_heldPolicyS.l0]; rw [if_neg (by simp)]) (Ev.now s)
  · intro s i hi hI
    refine ⟨by rw [hI]; omega, fun r h => Ev.step (fun k => ?_) h⟩
    have w1 : wrap64 (s + 1) = s + 1 := wr_id (by omega) (by omega)
    have w2 : wrap64 (s + 1 + 1) = s + 2 := by rw [wr_id (by omega) (by omega)]; omega
    have w3 : wrap64 (s + 2 + 1) = s + 3 := by rw [wr_id (by omega) (by omega)]; omega
    have e : rd_T67 ((List.range n).map (polMark m)) i = polMark m i := by simp [rd_T67, List.getD_eq_getElem?_getD, hi]
    simp only [laws_heldPolicyS.l0, e, w1, w2, w3]
    rw [if_pos (by simpa using hi), if_pos (by omega), if_pos (by rw [hI]; rfl), if_pos (by rw [hI]; rfl), if_pos (by rw [hI]; rfl), wr_succ hi (by omega)]
end Go.Proofs.YtblfoelddakelaaDoor.Base
/- A list of policies equals itself; a Side equals itself; the marks of a Side.
   Conditions: none. -/
namespace Go.Proofs.YtblfoelddakelaaDoor.Base
open Go.RowKit Go.Proofs.YtblfoelddakelaaDoorW.PrintWords Go.Proofs.YtblfoelddakelaaDoorW.PrintMore Go.Proofs.YtblfoelddakelaaDoor.P
theorem ev_eqPolicyS (l : List S67) (hl : l.length ≤ 1048576) : Ev (fun k => laws_eqPolicyS.f k l l) true := by
  unfold laws_eqPolicyS.f
  refine Ev.pos rfl ?_
  have h := ev_all (F := fun k i => laws_eqPolicyS.l0 k l l i) (n := l.length) (p := fun _ => true) (q := true) ?_ ?_ ?_ l.length 0 (by omega)
  · have e : (List.range' 0 l.length).all (fun _ => true) = true := by rw [List.all_eq_true]; intros; rfl
    rw [e] at h
    exact h
  · exact Ev.step (f := fun _ => some true) (fun k => by simp only [laws_eqPolicyS.l0]; rw [if_neg (by omega)]) (Ev.now true)
  · intro i _ h; cases h
  · intro i r hi _ h
    refine Ev.step (fun k => ?_) h
    simp only [laws_eqPolicyS.l0, laws_eqPolicy.f, if_true, Option.bind_some]
    rw [if_pos (by omega), if_pos (by omega), if_pos (by omega), wr_succ hi (by omega)]
theorem ev_eqSide (l : List S67) (hl : l.length ≤ 1048576) (a b : Int) : Ev (fun k => laws_eqSide.f k l a b l a b) true := by
  unfold laws_eqSide.f
  exact Ev.bind (ev_eqPolicyS l hl) (Ev.pos rfl (Ev.pos rfl (Ev.pos rfl (Ev.now _))))
theorem ev_markSide (l : List S67) (hl : l.length ≤ 1048576) (a b : Int) : Ev (fun k => laws_markSide.f k l a b 1) (1 + 3 * (l.length : Int), (List.range l.length).map (polMark 1)) := by
  unfold laws_markSide.f
  exact Ev.bind (ev_markPolicyS l hl 1 (by omega) (by omega)) (Ev.now _)
theorem ev_heldSide (n : Nat) (hl : n ≤ 1048576) (a b : Int) : Ev (fun k => laws_heldSide.f k ((List.range n).map (polMark 1)) a b 1) (1 + 3 * (n : Int)) := by
  unfold laws_heldSide.f
  exact Ev.bind (ev_heldPolicyS n hl 1 (by omega) (by omega)) (Ev.neg (by omega) (Ev.now _))
end Go.Proofs.YtblfoelddakelaaDoor.Base
namespace Go.Proofs.YtblfoelddakelaaDoor.Pure
open Go.RowKit Go.Proofs.YtblfoelddakelaaDoorW.PrintWords Go.Proofs.YtblfoelddakelaaDoorW.PrintMore Go.Proofs.YtblfoelddakelaaDoorW.PrintLast Go.Proofs.YtblfoelddakelaaDoor.Base Go.Proofs.YtblfoelddakelaaDoor.P Go.Proofs.YtblfoelddakelaaDoor.Texts
theorem iParse_len (T : List UInt8) : (iParse T).1.length ≤ 3 := by
  rcases iParse_sound T with h | ⟨l, sel, win, h, _, e⟩
  · rw [h]; simp [none4]
  · rw [e]; exact (sideOk_facts h).1
theorem FnExactParseSide : ∀ (a0 : ByteArray), a0.size ≤ 9223372036854775807 → ∃ k, laws_FnExactParseSide.f k a0 = some true := by
  intro t _
  apply Ev.rounds (g := fun k => laws_FnExactParseSide.f k t)
  unfold laws_FnExactParseSide.f
  by_cases h : (t.size : Int) > 1048576
  · exact Ev.pos h (Ev.now true)
  refine Ev.neg h ?_
  obtain ⟨T, rfl⟩ : ∃ T, t = S T := ⟨_, (S_of t).symm⟩
  rw [S_size] at h
  have hs := parse_spec T
  have hi := parse_impl T (by omega)
  rw [parse_one] at hs
  have hl := iParse_len T
  generalize iParse T = R at hs hi hl
  obtain ⟨l, sel, win, b⟩ := R
  have hl' : l.length ≤ 1048576 := by have : l.length ≤ 3 := hl; omega
  have he := ev_eqSide l hl' sel win
  refine Ev.bind hs (Ev.bind hi (Ev.bind he (Ev.pos rfl (Ev.step (fun k => laws_FnExactParseSide.j0.eq_2 ..) (Ev.neg (by simp) (Ev.bind (ev_markSide l hl' sel win) (Ev.bind (ev_heldSide l.length hl' sel win) (Ev.neg (by omega) (Ev.pos rfl (Ev.bind hi (Ev.bind he (Ev.pos rfl (Ev.step (fun k => laws_FnExactParseSide.j1.eq_2 ..) (Ev.neg (by simp) (Ev.bind (ev_heldSide l.length hl' sel win) (Ev.neg (by omega) (Ev.pos rfl ?_)))))))))))))))))
  exact Ev.now true
end Go.Proofs.YtblfoelddakelaaDoor.Pure
