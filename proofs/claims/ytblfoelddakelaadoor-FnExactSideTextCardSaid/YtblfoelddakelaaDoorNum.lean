/- Plain fact: the statements' numeral is the library's.
   Conditions: none. -/
import Derived.Test.YtblfoelddakelaaDoorTexts
import Derived.Test.YtblfoelddakelaaDoorU1
namespace Go.Proofs.YtblfoelddakelaaDoor.Texts
open Go.RowKit Go.Proofs.YtblfoelddakelaaDoorW.PrintWords Go.Proofs.YtblfoelddakelaaDoorW.PrintMore Go.Proofs.YtblfoelddakelaaDoorW.PrintLast Go.Proofs.YtblfoelddakelaaDoor.Base Go.Proofs.YtblfoelddakelaaDoor.U

theorem num_loop : ∀ (n u : Nat), u ≤ n → ∀ (v : Int), v.natAbs = u → -9223372036854775808 ≤ v → v ≤ 9223372036854775807 →
    ∀ (s : List UInt8) (b : Bool), s.length + (dg0 u).length ≤ 1000 →
    Ev (fun k => spec_l01Num.l0 k v (S s) b) (S ((if b = true then [45] else []) ++ dg0 u ++ s)) := by
  intro n
  induction n with
  | zero =>
    intro u hu v hv h0 h1 s b hs
    obtain rfl : u = 0 := by omega
    obtain rfl : v = 0 := by omega
    refine Ev.step (fun k => rfl) ?_
    refine Ev.pos rfl ?_
    cases b
    · refine Ev.neg (by decide) ?_
      simpa [dg0] using Ev.now (S s)
    · refine Ev.pos rfl (Ev.pos ?_ ?_)
      · rw [S_size]; omega
      · show Ev (fun k => some (S [45] ++ S s)) _
        rw [S_app]
        exact Ev.now (S ([45] ++ s))
  | succ n ih =>
    intro u hu v hv h0 h1 s b hs
    by_cases hz : u = 0
    · exact ih u (by omega) v hv h0 h1 s b hs
    have hst := dg0_step u (by omega)
    have hd : (Int.tdiv v 10).natAbs = u / 10 := by rw [tdiv_abs, hv]
    have hm : (Int.tmod v 10).natAbs = u % 10 := by rw [tmod_abs, hv]
    have hu9 : u ≤ 9223372036854775808 := by omega
    have hdb : -9223372036854775808 ≤ Int.tdiv v 10 ∧ Int.tdiv v 10 ≤ 9223372036854775807 := by omega
    have hw : wrap64 (Int.tdiv v 10) = Int.tdiv v 10 := wr_id hdb.1 hdb.2
    have hlen : (dg0 u).length = (dg0 (u / 10)).length + 1 := by rw [hst]; simp
    have go : ∀ (x : Int), x = ((48 + u % 10 : Nat) : Int) → Ev (fun k => (some ([x] : List Int)).bind fun y => (if (strOfNums y).size + (S s).size ≤ 9223372036854775807 then (spec_l01Num.l0 k (wrap64 (Int.tdiv v 10)) ((strOfNums y) ++ (S s)) b) else none)) (S ((if b = true then [45] else []) ++ dg0 u ++ s)) := by
      intro x hx
      subst hx
      refine Ev.bind0 rfl ?_
      refine Ev.pos ?_ ?_
      · rw [digit_str _ (by omega), S_size, S_size]
        simp only [List.length_cons, List.length_nil]; omega
      · rw [digit_str _ (by omega), S_app, hw]
        have := ih (u / 10) (by omega) (Int.tdiv v 10) hd hdb.1 hdb.2 ([UInt8.ofNat (48 + u % 10)] ++ s) b (by simp only [List.length_append, List.length_cons, List.length_nil]; omega)
        rw [hst]
        simpa using this
    refine Ev.step (fun k => rfl) ?_
    refine Ev.neg (by omega) ?_
    by_cases hneg : Int.tmod v 10 < 0
    · refine Ev.pos hneg ?_
      refine go _ ?_
      have e1 : wrap64 (-(Int.tmod v 10)) = ((u % 10 : Nat) : Int) := by rw [wr_id (by omega) (by omega)]; omega
      rw [e1, wr_id (by omega) (by omega)]; omega
    · refine Ev.neg hneg ?_
      refine go _ ?_
      have e1 : Int.tmod v 10 = ((u % 10 : Nat) : Int) := by omega
      rw [e1, wr_id (by omega) (by omega)]; omega

theorem ev_num (a : Int) (h0 : -9223372036854775808 ≤ a) (h1 : a ≤ 9223372036854775807) : Ev (fun k => spec_l01Num.f k a) (S (Lib.itoa a)) := by
  unfold spec_l01Num.f
  by_cases hz : a = 0
  · subst hz
    refine Ev.pos rfl ?_
    have : Lib.itoa 0 = [48] := by simp [Lib.itoa, Lib.decDigits_one]
    rw [this]
    exact Ev.now _
  · refine Ev.neg hz ?_
    have hl := Lib.itoa_length_le a h0 h1
    have e : Lib.itoa a = (if decide (a < 0) = true then [45] else []) ++ dg0 a.natAbs ++ [] := by
      unfold Lib.itoa dg0
      rw [if_neg (by omega : ¬ a.natAbs = 0)]
      by_cases hn : a < 0
      · simp [hn]
      · simp [hn, show a.toNat = a.natAbs by omega]
    rw [e]
    refine num_loop a.natAbs a.natAbs (Nat.le_refl _) a rfl h0 h1 [] (decide (a < 0)) ?_
    have := congrArg List.length e
    simp only [List.length_append, List.length_nil] at this ⊢
    omega
theorem itoa_len (a : Int) (h0 : -9223372036854775808 ≤ a) (h1 : a ≤ 9223372036854775807) : (Lib.itoa a).length ≤ 21 := Lib.itoa_length_le a h0 h1
end Go.Proofs.YtblfoelddakelaaDoor.Texts
