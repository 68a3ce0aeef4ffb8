-- PRINTED by print.py (a twelfth state) out of the translation. Not trusted: Lean checks it.
import Derived.Test.YtfjjlipfjddaiaaU0
namespace Go.Proofs.Ytfjjlipfjddaiaa.U
open Go.RowKit Go.Proofs.YtfjjlipfjddaiaaW.PrintWords Go.Proofs.YtfjjlipfjddaiaaW.PrintLast Go.Proofs.YtfjjlipfjddaiaaW.PrintMore
attribute [local go_sem] max2_int min2_int max_two min_two max_three min_three max_four min_four   -- for this text's walks alone
set_option linter.unusedVariables false
set_option linter.unusedSimpArgs false

/-! ### laws_eqNote: function 87 -/
def laws_eqNote.f (a0_0 : Int) (a0_1 : Int) (a1_0 : Int) (a1_1 : Int) : Option (Bool) := if a0_0 = a1_0 then (if a0_1 = a1_1 then (some true) else (some false)) else (some false)
set_option maxHeartbeats 8000000 in
set_option maxRecDepth 100000 in
theorem laws_eqNote.calls (a0_0 : Int) (a0_1 : Int) (a1_0 : Int) (a1_1 : Int) (r : Bool) (w : World) (h : laws_eqNote.f a0_0 a0_1 a1_0 a1_1 = some r) :
  Calls Try.prog 87 #[.agg #[.int .i64 a0_0, .int .i64 a0_1], .agg #[.int .i64 a1_0, .int .i64 a1_1]] w fun e w' => e = .returned (.bool r) ∧ Below w.heap.size w w' := by
 have hu109 := Try.underlying109
 have HB := Aside0.mk (Below.refl w.heap.size w)
 have H : (if a0_0 = a1_0 then (if a0_1 = a1_1 then (some true) else (some false)) else (some false)) = some r := h
 clear h
 by_cases c3 : a0_0 = a1_0
 ·rw [if_pos c3] at H
  have c3b0 : (a0_0 == a1_0) = true := beq_iff_eq.mpr c3
  have c3b1 : (a0_0 != a1_0) = false := bne_eq_false_iff_eq.mpr c3
  clear c3
  by_cases c4 : a0_1 = a1_1
  ·rw [if_pos c4] at H
   have c4b0 : (a0_1 == a1_1) = true := beq_iff_eq.mpr c4
   have c4b1 : (a0_1 != a1_1) = false := bne_eq_false_iff_eq.mpr c4
   clear c4
   obtain rfl := Option.some.inj H
   go_enter Try.func87, Try.ntmps87
   go_wp2_with (first | ((with_reducible refine gate_dst (N := 2) rfl ?_); refine be_ (N := 2) (cs := #[.int .i64 a0_0, .int .i64 a0_1]) (t := 109) ?_; intro gb237 hg w5 hbox hb; have BK237 := ak_ hbox; have GW237 := ak_ ((gs_ hg : w.heap.size ≤ gb237)); have GE237 := ak_ ((gs_ hg : w.heap.size ≤ gb237)); replace HB := ak_ (below_step hb_ hb); clear hb hbox hg) | ((with_reducible refine gate_dst (N := 3) rfl ?_); refine be_ (N := 3) (cs := #[.int .i64 a1_0, .int .i64 a1_1]) (t := 109) ?_; intro gb238 hg w6 hbox hb; have BK238 := ak_ hbox; have GW238 := ak_ ((gs_ hg : w.heap.size ≤ gb238)); have GE238 := ak_ ((gs_ hg : w.heap.size ≤ gb238)); replace HB := ak_ (below_step hb_ hb); have NB237_238 := ak_ (nl_ hg (bk_ BK237)); have NB238_237 := ak_ (ng_ hg (bk_ BK237)); replace BK237 := ak_ (blk_below (bk_ BK237) hb); clear hb hbox hg; have hnb7 := NB237_238.out; have hnc7 := NB238_237.out; obtain ⟨hcz8_0, hcz8_1, hfz8_0, hfz8_1⟩ := bc2_ BK237.out; obtain ⟨hcz9_0, hcz9_1, hfz9_0, hfz9_1⟩ := bc2_ BK238.out))
   go_ret
   exact ⟨ew_, hb_⟩
  ·rw [if_neg c4] at H
   have c4b0 : (a0_1 == a1_1) = false := beq_eq_false_iff_ne.mpr c4
   have c4b1 : (a0_1 != a1_1) = true := bne_iff_ne.mpr c4
   obtain rfl := Option.some.inj H
   go_enter Try.func87, Try.ntmps87
   go_wp2_with (first | ((with_reducible refine gate_dst (N := 2) rfl ?_); refine be_ (N := 2) (cs := #[.int .i64 a0_0, .int .i64 a0_1]) (t := 109) ?_; intro gb237 hg w10 hbox hb; have BK237 := ak_ hbox; have GW237 := ak_ ((gs_ hg : w.heap.size ≤ gb237)); have GE237 := ak_ ((gs_ hg : w.heap.size ≤ gb237)); replace HB := ak_ (below_step hb_ hb); clear hb hbox hg) | ((with_reducible refine gate_dst (N := 3) rfl ?_); refine be_ (N := 3) (cs := #[.int .i64 a1_0, .int .i64 a1_1]) (t := 109) ?_; intro gb238 hg w11 hbox hb; have BK238 := ak_ hbox; have GW238 := ak_ ((gs_ hg : w.heap.size ≤ gb238)); have GE238 := ak_ ((gs_ hg : w.heap.size ≤ gb238)); replace HB := ak_ (below_step hb_ hb); have NB237_238 := ak_ (nl_ hg (bk_ BK237)); have NB238_237 := ak_ (ng_ hg (bk_ BK237)); replace BK237 := ak_ (blk_below (bk_ BK237) hb); clear hb hbox hg; have hnb12 := NB237_238.out; have hnc12 := NB238_237.out; obtain ⟨hcz13_0, hcz13_1, hfz13_0, hfz13_1⟩ := bc2_ BK237.out; obtain ⟨hcz14_0, hcz14_1, hfz14_0, hfz14_1⟩ := bc2_ BK238.out))
   go_ret
   exact ⟨ew_, hb_⟩
 ·rw [if_neg c3] at H
  have c3b0 : (a0_0 == a1_0) = false := beq_eq_false_iff_ne.mpr c3
  have c3b1 : (a0_0 != a1_0) = true := bne_iff_ne.mpr c3
  obtain rfl := Option.some.inj H
  go_enter Try.func87, Try.ntmps87
  go_wp2_with (first | ((with_reducible refine gate_dst (N := 2) rfl ?_); refine be_ (N := 2) (cs := #[.int .i64 a0_0, .int .i64 a0_1]) (t := 109) ?_; intro gb237 hg w15 hbox hb; have BK237 := ak_ hbox; have GW237 := ak_ ((gs_ hg : w.heap.size ≤ gb237)); have GE237 := ak_ ((gs_ hg : w.heap.size ≤ gb237)); replace HB := ak_ (below_step hb_ hb); clear hb hbox hg) | ((with_reducible refine gate_dst (N := 3) rfl ?_); refine be_ (N := 3) (cs := #[.int .i64 a1_0, .int .i64 a1_1]) (t := 109) ?_; intro gb238 hg w16 hbox hb; have BK238 := ak_ hbox; have GW238 := ak_ ((gs_ hg : w.heap.size ≤ gb238)); have GE238 := ak_ ((gs_ hg : w.heap.size ≤ gb238)); replace HB := ak_ (below_step hb_ hb); have NB237_238 := ak_ (nl_ hg (bk_ BK237)); have NB238_237 := ak_ (ng_ hg (bk_ BK237)); replace BK237 := ak_ (blk_below (bk_ BK237) hb); clear hb hbox hg; have hnb17 := NB237_238.out; have hnc17 := NB238_237.out; obtain ⟨hcz18_0, hcz18_1, hfz18_0, hfz18_1⟩ := bc2_ BK237.out; obtain ⟨hcz19_0, hcz19_1, hfz19_0, hfz19_1⟩ := bc2_ BK238.out))
  go_ret
  exact ⟨ew_, hb_⟩

end Go.Proofs.Ytfjjlipfjddaiaa.U
