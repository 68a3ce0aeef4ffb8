-- PRINTED by print.py (a twelfth state) out of the translation. Not trusted: Lean checks it.
import Derived.Test.YtblfoelddakelaaDoorP0
import Derived.Test.YtblfoelddakelaaDoorP2
namespace Go.Proofs.YtblfoelddakelaaDoor.P
open Go.RowKit Go.Proofs.YtblfoelddakelaaDoorW.PrintWords Go.Proofs.YtblfoelddakelaaDoorW.PrintLast Go.Proofs.YtblfoelddakelaaDoorW.PrintMore
attribute [local go_sem] max2_int min2_int max_two min_two max_three min_three max_four min_four   -- for this text's walks alone
set_option linter.unusedVariables false
set_option linter.unusedSimpArgs false

/-! ### laws_eqSide: function 14 -/
def laws_eqSide.f (k : Nat) (l0_0 : List (S67)) (a0_1 : Int) (a0_2 : Int) (l1_0 : List (S67)) (a1_1 : Int) (a1_2 : Int) : Option (Bool) := (laws_eqPolicyS.f k l0_0 l1_0).bind fun t108 => (if t108 = true then (if a0_1 = a1_1 then (if a0_2 = a1_2 then (some true) else (some false)) else (some false)) else (some false))
theorem laws_eqSide.mono : ∀ a0 a1 a2 a3 a4 a5 k, LeO (laws_eqSide.f k a0 a1 a2 a3 a4 a5) (laws_eqSide.f (k + 1) a0 a1 a2 a3 a4 a5) := by
  intro a0 a1 a2 a3 a4 a5 k
  unfold laws_eqSide.f
  repeat' with_reducible first | exact laws_eqPolicyS.mono _ _ _ | exact LeO.refl _ | exact LeO.none _ | refine LeO.ite ?_ ?_ | refine LeO.bind ?_ (fun _ => ?_)
set_option maxHeartbeats 8000000 in
set_option maxRecDepth 100000 in
theorem laws_eqSide.calls (k : Nat) (A0_0 : Option Addr) (c0_0 : Nat) (l0_0 : List (S67)) (a0_1 : Int) (a0_2 : Int) (A1_0 : Option Addr) (c1_0 : Nat) (l1_0 : List (S67)) (a1_1 : Int) (a1_2 : Int) (r : Bool) (w : World) (hr0_0 : Kd.C k67 w A0_0 l0_0.length l0_0) (hc0_0 : l0_0.length ≤ c0_0) (hr1_0 : Kd.C k67 w A1_0 l1_0.length l1_0) (hc1_0 : l1_0.length ≤ c1_0) (h : laws_eqSide.f k l0_0 a0_1 a0_2 l1_0 a1_1 a1_2 = some r) :
  Calls Tryd.prog 14 #[.agg #[.slice A0_0 l0_0.length c0_0, .int .i64 a0_1, .int .i64 a0_2], .agg #[.slice A1_0 l1_0.length c1_0, .int .i64 a1_1, .int .i64 a1_2]] w fun e w' => e = .returned (.bool r) ∧ Below w.heap.size w w' := by
 have hu35 := Tryd.underlying35
 have HR0_0 := Aside0.mk hr0_0
 have HC0_0 := Aside0.mk hc0_0
 clear hr0_0 hc0_0
 have HR1_0 := Aside0.mk hr1_0
 have HC1_0 := Aside0.mk hc1_0
 clear hr1_0 hc1_0
 have HB := Aside0.mk (Below.refl w.heap.size w)
 have H : ((laws_eqPolicyS.f k l0_0 l1_0).bind fun t108 => (if t108 = true then (if a0_1 = a1_1 then (if a0_2 = a1_2 then (some true) else (some false)) else (some false)) else (some false))) = some r := h
 clear h
 replace H := Option.bind_eq_some_iff.mp H
 obtain ⟨t108, A30, H⟩ := H
 replace H : (if t108 = true then (if a0_1 = a1_1 then (if a0_2 = a1_2 then (some true) else (some false)) else (some false)) else (some false)) = some r := H
 have A3 := Aside0.mk A30
 clear A30
 by_cases c4 : t108 = true
 ·subst c4
  rw [if_pos rfl] at H
  by_cases c5 : a0_1 = a1_1
  ·rw [if_pos c5] at H
   have c5b0 : (a0_1 == a1_1) = true := beq_iff_eq.mpr c5
   have c5b1 : (a0_1 != a1_1) = false := bne_eq_false_iff_eq.mpr c5
   clear c5
   by_cases c6 : a0_2 = a1_2
   ·rw [if_pos c6] at H
    have c6b0 : (a0_2 == a1_2) = true := beq_iff_eq.mpr c6
    have c6b1 : (a0_2 != a1_2) = false := bne_eq_false_iff_eq.mpr c6
    clear c6
    obtain rfl := Option.some.inj H
    go_enter Tryd.func14, Tryd.ntmps14
    go_wp2_with (first | ((with_reducible refine gate_dst (N := 2) rfl ?_); refine be_ (N := 2) (cs := #[.slice A0_0 l0_0.length c0_0, .int .i64 a0_1, .int .i64 a0_2]) (t := 35) ?_; intro gb106 hg w7 hbox hb; have BK106 := ak_ hbox; have GW106 := ak_ ((gs_ hg : w.heap.size ≤ gb106)); have GE106 := ak_ ((gs_ hg : w.heap.size ≤ gb106)); replace HB := ak_ (below_step hb_ hb); clear hb hbox hg) | ((with_reducible refine gate_dst (N := 3) rfl ?_); refine be_ (N := 3) (cs := #[.slice A1_0 l1_0.length c1_0, .int .i64 a1_1, .int .i64 a1_2]) (t := 35) ?_; intro gb107 hg w8 hbox hb; have BK107 := ak_ hbox; have GW107 := ak_ ((gs_ hg : w.heap.size ≤ gb107)); have GE107 := ak_ ((gs_ hg : w.heap.size ≤ gb107)); replace HB := ak_ (below_step hb_ hb); have NB106_107 := ak_ (nl_ hg (bk_ BK106)); have NB107_106 := ak_ (ng_ hg (bk_ BK106)); replace BK106 := ak_ (blk_below (bk_ BK106) hb); clear hb hbox hg; have hnb9 := NB106_107.out; have hnc9 := NB107_106.out; obtain ⟨hcz10_0, hcz10_1, hcz10_2, hfz10_0, hfz10_1, hfz10_2⟩ := bc3_ BK106.out; obtain ⟨hcz11_0, hcz11_1, hcz11_2, hfz11_0, hfz11_1, hfz11_2⟩ := bc3_ BK107.out) | ((with_reducible refine gate_callee (f := 31) rfl ?_); refine goesL_ (some 9) rfl rfl Tryd.func31 (by kernel_rfl) rfl #[.slice A0_0 l0_0.length c0_0, .slice A1_0 l1_0.length c1_0] rfl (ma2_ rfl rfl) ?_; (with_reducible refine (laws_eqPolicyS.calls k _ _ l0_0 _ _ l1_0 true _ ?side1 ?side2 ?side3 ?side4 A3.out).mono ?_); (case side1 => exact kc_ HR0_0); (case side2 => exact HC0_0.out); (case side3 => exact kc_ HR1_0); (case side4 => exact HC1_0.out); rintro e w12 ⟨rfl, hb⟩; refine ⟨_, rfl, ?_⟩; replace BK106 := ak_ (blk_below (bk_ BK106) hb); replace BK107 := ak_ (blk_below (bk_ BK107) hb); replace HB := ak_ (below_step hb_ hb); (try clear hb); obtain ⟨hcz13_0, hcz13_1, hcz13_2, hfz13_0, hfz13_1, hfz13_2⟩ := bc3_ BK106.out; obtain ⟨hcz14_0, hcz14_1, hcz14_2, hfz14_0, hfz14_1, hfz14_2⟩ := bc3_ BK107.out))
    go_ret
    exact ⟨ew_, hb_⟩
   ·rw [if_neg c6] at H
    have c6b0 : (a0_2 == a1_2) = false := beq_eq_false_iff_ne.mpr c6
    have c6b1 : (a0_2 != a1_2) = true := bne_iff_ne.mpr c6
    obtain rfl := Option.some.inj H
    go_enter Tryd.func14, Tryd.ntmps14
    go_wp2_with (first | ((with_reducible refine gate_dst (N := 2) rfl ?_); refine be_ (N := 2) (cs := #[.slice A0_0 l0_0.length c0_0, .int .i64 a0_1, .int .i64 a0_2]) (t := 35) ?_; intro gb106 hg w15 hbox hb; have BK106 := ak_ hbox; have GW106 := ak_ ((gs_ hg : w.heap.size ≤ gb106)); have GE106 := ak_ ((gs_ hg : w.heap.size ≤ gb106)); replace HB := ak_ (below_step hb_ hb); clear hb hbox hg) | ((with_reducible refine gate_dst (N := 3) rfl ?_); refine be_ (N := 3) (cs := #[.slice A1_0 l1_0.length c1_0, .int .i64 a1_1, .int .i64 a1_2]) (t := 35) ?_; intro gb107 hg w16 hbox hb; have BK107 := ak_ hbox; have GW107 := ak_ ((gs_ hg : w.heap.size ≤ gb107)); have GE107 := ak_ ((gs_ hg : w.heap.size ≤ gb107)); replace HB := ak_ (below_step hb_ hb); have NB106_107 := ak_ (nl_ hg (bk_ BK106)); have NB107_106 := ak_ (ng_ hg (bk_ BK106)); replace BK106 := ak_ (blk_below (bk_ BK106) hb); clear hb hbox hg; have hnb17 := NB106_107.out; have hnc17 := NB107_106.out; obtain ⟨hcz18_0, hcz18_1, hcz18_2, hfz18_0, hfz18_1, hfz18_2⟩ := bc3_ BK106.out; obtain ⟨hcz19_0, hcz19_1, hcz19_2, hfz19_0, hfz19_1, hfz19_2⟩ := bc3_ BK107.out) | ((with_reducible refine gate_callee (f := 31) rfl ?_); refine goesL_ (some 9) rfl rfl Tryd.func31 (by kernel_rfl) rfl #[.slice A0_0 l0_0.length c0_0, .slice A1_0 l1_0.length c1_0] rfl (ma2_ rfl rfl) ?_; (with_reducible refine (laws_eqPolicyS.calls k _ _ l0_0 _ _ l1_0 true _ ?side1 ?side2 ?side3 ?side4 A3.out).mono ?_); (case side1 => exact kc_ HR0_0); (case side2 => exact HC0_0.out); (case side3 => exact kc_ HR1_0); (case side4 => exact HC1_0.out); rintro e w20 ⟨rfl, hb⟩; refine ⟨_, rfl, ?_⟩; replace BK106 := ak_ (blk_below (bk_ BK106) hb); replace BK107 := ak_ (blk_below (bk_ BK107) hb); replace HB := ak_ (below_step hb_ hb); (try clear hb); obtain ⟨hcz21_0, hcz21_1, hcz21_2, hfz21_0, hfz21_1, hfz21_2⟩ := bc3_ BK106.out; obtain ⟨hcz22_0, hcz22_1, hcz22_2, hfz22_0, hfz22_1, hfz22_2⟩ := bc3_ BK107.out))
    go_ret
    exact ⟨ew_, hb_⟩
  ·rw [if_neg c5] at H
   have c5b0 : (a0_1 == a1_1) = false := beq_eq_false_iff_ne.mpr c5
   have c5b1 : (a0_1 != a1_1) = true := bne_iff_ne.mpr c5
   obtain rfl := Option.some.inj H
   go_enter Tryd.func14, Tryd.ntmps14
   go_wp2_with (first | ((with_reducible refine gate_dst (N := 2) rfl ?_); refine be_ (N := 2) (cs := #[.slice A0_0 l0_0.length c0_0, .int .i64 a0_1, .int .i64 a0_2]) (t := 35) ?_; intro gb106 hg w23 hbox hb; have BK106 := ak_ hbox; have GW106 := ak_ ((gs_ hg : w.heap.size ≤ gb106)); have GE106 := ak_ ((gs_ hg : w.heap.size ≤ gb106)); replace HB := ak_ (below_step hb_ hb); clear hb hbox hg) | ((with_reducible refine gate_dst (N := 3) rfl ?_); refine be_ (N := 3) (cs := #[.slice A1_0 l1_0.length c1_0, .int .i64 a1_1, .int .i64 a1_2]) (t := 35) ?_; intro gb107 hg w24 hbox hb; have BK107 := ak_ hbox; have GW107 := ak_ ((gs_ hg : w.heap.size ≤ gb107)); have GE107 := ak_ ((gs_ hg : w.heap.size ≤ gb107)); replace HB := ak_ (below_step hb_ hb); have NB106_107 := ak_ (nl_ hg (bk_ BK106)); have NB107_106 := ak_ (ng_ hg (bk_ BK106)); replace BK106 := ak_ (blk_below (bk_ BK106) hb); clear hb hbox hg; have hnb25 := NB106_107.out; have hnc25 := NB107_106.out; obtain ⟨hcz26_0, hcz26_1, hcz26_2, hfz26_0, hfz26_1, hfz26_2⟩ := bc3_ BK106.out; obtain ⟨hcz27_0, hcz27_1, hcz27_2, hfz27_0, hfz27_1, hfz27_2⟩ := bc3_ BK107.out) | ((with_reducible refine gate_callee (f := 31) rfl ?_); refine goesL_ (some 9) rfl rfl Tryd.func31 (by kernel_rfl) rfl #[.slice A0_0 l0_0.length c0_0, .slice A1_0 l1_0.length c1_0] rfl (ma2_ rfl rfl) ?_; (with_reducible refine (laws_eqPolicyS.calls k _ _ l0_0 _ _ l1_0 true _ ?side1 ?side2 ?side3 ?side4 A3.out).mono ?_); (case side1 => exact kc_ HR0_0); (case side2 => exact HC0_0.out); (case side3 => exact kc_ HR1_0); (case side4 => exact HC1_0.out); rintro e w28 ⟨rfl, hb⟩; refine ⟨_, rfl, ?_⟩; replace BK106 := ak_ (blk_below (bk_ BK106) hb); replace BK107 := ak_ (blk_below (bk_ BK107) hb); replace HB := ak_ (below_step hb_ hb); (try clear hb); obtain ⟨hcz29_0, hcz29_1, hcz29_2, hfz29_0, hfz29_1, hfz29_2⟩ := bc3_ BK106.out; obtain ⟨hcz30_0, hcz30_1, hcz30_2, hfz30_0, hfz30_1, hfz30_2⟩ := bc3_ BK107.out))
   go_ret
   exact ⟨ew_, hb_⟩
 ·replace c4 := Bool.eq_false_iff.mpr c4
  subst c4
  rw [if_neg (show ¬ (false = true) by decide)] at H
  obtain rfl := Option.some.inj H
  go_enter Tryd.func14, Tryd.ntmps14
  go_wp2_with (first | ((with_reducible refine gate_dst (N := 2) rfl ?_); refine be_ (N := 2) (cs := #[.slice A0_0 l0_0.length c0_0, .int .i64 a0_1, .int .i64 a0_2]) (t := 35) ?_; intro gb106 hg w31 hbox hb; have BK106 := ak_ hbox; have GW106 := ak_ ((gs_ hg : w.heap.size ≤ gb106)); have GE106 := ak_ ((gs_ hg : w.heap.size ≤ gb106)); replace HB := ak_ (below_step hb_ hb); clear hb hbox hg) | ((with_reducible refine gate_dst (N := 3) rfl ?_); refine be_ (N := 3) (cs := #[.slice A1_0 l1_0.length c1_0, .int .i64 a1_1, .int .i64 a1_2]) (t := 35) ?_; intro gb107 hg w32 hbox hb; have BK107 := ak_ hbox; have GW107 := ak_ ((gs_ hg : w.heap.size ≤ gb107)); have GE107 := ak_ ((gs_ hg : w.heap.size ≤ gb107)); replace HB := ak_ (below_step hb_ hb); have NB106_107 := ak_ (nl_ hg (bk_ BK106)); have NB107_106 := ak_ (ng_ hg (bk_ BK106)); replace BK106 := ak_ (blk_below (bk_ BK106) hb); clear hb hbox hg; have hnb33 := NB106_107.out; have hnc33 := NB107_106.out; obtain ⟨hcz34_0, hcz34_1, hcz34_2, hfz34_0, hfz34_1, hfz34_2⟩ := bc3_ BK106.out; obtain ⟨hcz35_0, hcz35_1, hcz35_2, hfz35_0, hfz35_1, hfz35_2⟩ := bc3_ BK107.out) | ((with_reducible refine gate_callee (f := 31) rfl ?_); refine goesL_ (some 9) rfl rfl Tryd.func31 (by kernel_rfl) rfl #[.slice A0_0 l0_0.length c0_0, .slice A1_0 l1_0.length c1_0] rfl (ma2_ rfl rfl) ?_; (with_reducible refine (laws_eqPolicyS.calls k _ _ l0_0 _ _ l1_0 false _ ?side1 ?side2 ?side3 ?side4 A3.out).mono ?_); (case side1 => exact kc_ HR0_0); (case side2 => exact HC0_0.out); (case side3 => exact kc_ HR1_0); (case side4 => exact HC1_0.out); rintro e w36 ⟨rfl, hb⟩; refine ⟨_, rfl, ?_⟩; replace BK106 := ak_ (blk_below (bk_ BK106) hb); replace BK107 := ak_ (blk_below (bk_ BK107) hb); replace HB := ak_ (below_step hb_ hb); (try clear hb)))
  go_ret
  exact ⟨ew_, hb_⟩

/-! ### spec_l01In: function 53 -/
def spec_l01In.f (a0 : Int) (a1 : Int) (a2 : Int) : Option (Bool) := if a1 ≤ a0 then (some (decide (a0 ≤ a2))) else (some false)
set_option maxHeartbeats 8000000 in
set_option maxRecDepth 100000 in
theorem spec_l01In.calls (a0 : Int) (a1 : Int) (a2 : Int) (r : Bool) (w : World) (h : spec_l01In.f a0 a1 a2 = some r) :
  Calls Tryd.prog 53 #[.int .i64 a0, .int .i64 a1, .int .i64 a2] w fun e w' => e = .returned (.bool r) ∧ Drawn0 w w' := by
 have H : (if a1 ≤ a0 then (some (decide (a0 ≤ a2))) else (some false)) = some r := h
 clear h
 by_cases c4 : a1 ≤ a0
 ·rw [if_pos c4] at H
  have c4b0 : decide (a1 ≤ a0) = true := decide_eq_true c4
  clear c4
  obtain rfl := Option.some.inj H
  go_enter Tryd.func53, Tryd.ntmps53
  go_wp2
  go_ret
  exact ⟨by first | rfl | (simp; done) | (simp [*]; done), by repeat (first | exact Drawn0.refl _ | apply Drawn0.step)⟩
 ·rw [if_neg c4] at H
  have c4b0 : decide (a1 ≤ a0) = false := decide_eq_false c4
  clear c4
  obtain rfl := Option.some.inj H
  go_enter Tryd.func53, Tryd.ntmps53
  go_wp2
  go_ret
  exact ⟨by first | rfl | (simp; done) | (simp [*]; done), by repeat (first | exact Drawn0.refl _ | apply Drawn0.step)⟩

end Go.Proofs.YtblfoelddakelaaDoor.P
