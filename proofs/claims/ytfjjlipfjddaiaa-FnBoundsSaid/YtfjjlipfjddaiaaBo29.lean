-- PRINTED by print.py (a twelfth state) out of the translation. Not trusted: Lean checks it.
import Derived.Test.YtfjjlipfjddaiaaBo0
import Derived.Test.YtfjjlipfjddaiaaBo26
import Derived.Test.YtfjjlipfjddaiaaBo28
namespace Go.Proofs.Ytfjjlipfjddaiaa.Bo
open Go.RowKit Go.Proofs.YtfjjlipfjddaiaaW.PrintWords Go.Proofs.YtfjjlipfjddaiaaW.PrintLast Go.Proofs.YtfjjlipfjddaiaaW.PrintMore
attribute [local go_sem] max2_int min2_int max_two min_two max_three min_three max_four min_four   -- for this text's walks alone
set_option linter.unusedVariables false
set_option linter.unusedSimpArgs false

/-! ### spec_UpBound: function 26 -/
mutual
def spec_UpBound.l0 : Nat → List (S103) → Int → Int → Int → Int → List (S96) → Int → Int → Option (Int)
  | 0, _, _, _, _, _, _, _, _ => none
  | k + 1, x1, x2, x3, x9, x10, x505000, x505001, x505002 => if x10 < (x505000.length : Int) then (if 0 ≤ x10 then ((spec_l06Base.f k ((rd_T96 x505000 x10).f0) ((rd_T96 x505000 x10).f1) ((rd_T96 x505000 x10).f2) x1 x2 x3).bind fun t508 => (if ((rd_T96 x505000 x10).f0) = 1 then ((spec_CeilDiv.f (wrap64 (t508 * (wrap64 (100 + ((rd_T96 x505000 x10).f1))))) 100).bind fun t509 => (spec_UpBound.j1 k x1 x2 x3 x9 x10 t509 x505000 x505001 x505002)) else (spec_UpBound.j1 k x1 x2 x3 x9 x10 (wrap64 (t508 + ((rd_T96 x505000 x10).f1))) x505000 x505001 x505002))) else (none)) else (if x9 < x3 then (some x3) else (some x9))
def spec_UpBound.j1 : Nat → List (S103) → Int → Int → Int → Int → Int → List (S96) → Int → Int → Option (Int)
  | 0, _, _, _, _, _, _, _, _, _ => none
  | k + 1, x1, x2, x3, x9, x10, x13, x505000, x505001, x505002 => if x13 > 1000 then (if x9 < 0 then (spec_UpBound.l0 k x1 x2 x3 1000 (wrap64 (x10 + 1)) x505000 x505001 x505002) else (if x505001 = 0 then (if 1000 > x9 then (spec_UpBound.l0 k x1 x2 x3 1000 (wrap64 (x10 + 1)) x505000 x505001 x505002) else (if x505001 = 1 then (if 1000 < x9 then (spec_UpBound.l0 k x1 x2 x3 1000 (wrap64 (x10 + 1)) x505000 x505001 x505002) else (spec_UpBound.l0 k x1 x2 x3 x9 (wrap64 (x10 + 1)) x505000 x505001 x505002)) else (spec_UpBound.l0 k x1 x2 x3 x9 (wrap64 (x10 + 1)) x505000 x505001 x505002))) else (if x505001 = 1 then (if 1000 < x9 then (spec_UpBound.l0 k x1 x2 x3 1000 (wrap64 (x10 + 1)) x505000 x505001 x505002) else (spec_UpBound.l0 k x1 x2 x3 x9 (wrap64 (x10 + 1)) x505000 x505001 x505002)) else (spec_UpBound.l0 k x1 x2 x3 x9 (wrap64 (x10 + 1)) x505000 x505001 x505002)))) else (if x9 < 0 then (spec_UpBound.l0 k x1 x2 x3 x13 (wrap64 (x10 + 1)) x505000 x505001 x505002) else (if x505001 = 0 then (if x13 > x9 then (spec_UpBound.l0 k x1 x2 x3 x13 (wrap64 (x10 + 1)) x505000 x505001 x505002) else (if x505001 = 1 then (if x13 < x9 then (spec_UpBound.l0 k x1 x2 x3 x13 (wrap64 (x10 + 1)) x505000 x505001 x505002) else (spec_UpBound.l0 k x1 x2 x3 x9 (wrap64 (x10 + 1)) x505000 x505001 x505002)) else (spec_UpBound.l0 k x1 x2 x3 x9 (wrap64 (x10 + 1)) x505000 x505001 x505002))) else (if x505001 = 1 then (if x13 < x9 then (spec_UpBound.l0 k x1 x2 x3 x13 (wrap64 (x10 + 1)) x505000 x505001 x505002) else (spec_UpBound.l0 k x1 x2 x3 x9 (wrap64 (x10 + 1)) x505000 x505001 x505002)) else (spec_UpBound.l0 k x1 x2 x3 x9 (wrap64 (x10 + 1)) x505000 x505001 x505002))))
end
def spec_UpBound.f (k : Nat) (l0_0 : List (S96)) (a0_1 : Int) (a0_2 : Int) (l1 : List (S103)) (a2 : Int) (a3 : Int) : Option (Int) := (spec_l06Good.f k l0_0 a0_1 a0_2 l1 a2 a3).bind fun t505 => (if t505 = true then (if a0_1 = 2 then (some a3) else (if (l0_0.length : Int) = 0 then (some 1000) else (spec_UpBound.l0 k l1 a2 a3 (-1) 0 l0_0 a0_1 a0_2))) else (some (-1)))
theorem spec_UpBound.mono_l : ∀ k, (∀ y0 y1 y2 y3 y4 y5 y6 y7, LeO (spec_UpBound.l0 k y0 y1 y2 y3 y4 y5 y6 y7) (spec_UpBound.l0 (k + 1) y0 y1 y2 y3 y4 y5 y6 y7)) ∧ (∀ y0 y1 y2 y3 y4 y5 y6 y7 y8, LeO (spec_UpBound.j1 k y0 y1 y2 y3 y4 y5 y6 y7 y8) (spec_UpBound.j1 (k + 1) y0 y1 y2 y3 y4 y5 y6 y7 y8))
  | 0 => ⟨fun _ _ _ _ _ _ _ _ r h => by simp [spec_UpBound.l0] at h, fun _ _ _ _ _ _ _ _ _ r h => by simp [spec_UpBound.j1] at h⟩
  | k + 1 => by
    obtain ⟨ih0, ih1⟩ := spec_UpBound.mono_l k
    refine ⟨?_, ?_⟩
    · intro y0 y1 y2 y3 y4 y5 y6 y7
      unfold spec_UpBound.l0
      repeat' with_reducible first | exact ih0 _ _ _ _ _ _ _ _ | exact ih1 _ _ _ _ _ _ _ _ _ | exact spec_l06Base.mono _ _ _ _ _ _ _ | exact spec_l06Good.mono _ _ _ _ _ _ _ | exact LeO.refl _ | exact LeO.none _ | refine LeO.ite ?_ ?_ | refine LeO.bind ?_ (fun _ => ?_)
    · intro y0 y1 y2 y3 y4 y5 y6 y7 y8
      unfold spec_UpBound.j1
      repeat' with_reducible first | exact ih0 _ _ _ _ _ _ _ _ | exact ih1 _ _ _ _ _ _ _ _ _ | exact spec_l06Base.mono _ _ _ _ _ _ _ | exact spec_l06Good.mono _ _ _ _ _ _ _ | exact LeO.refl _ | exact LeO.none _ | refine LeO.ite ?_ ?_ | refine LeO.bind ?_ (fun _ => ?_)
theorem spec_UpBound.mono : ∀ a0 a1 a2 a3 a4 a5 k, LeO (spec_UpBound.f k a0 a1 a2 a3 a4 a5) (spec_UpBound.f (k + 1) a0 a1 a2 a3 a4 a5) := by
  intro a0 a1 a2 a3 a4 a5 k
  obtain ⟨ih0, ih1⟩ := spec_UpBound.mono_l k
  unfold spec_UpBound.f
  repeat' with_reducible first | exact ih0 _ _ _ _ _ _ _ _ | exact ih1 _ _ _ _ _ _ _ _ _ | exact spec_l06Base.mono _ _ _ _ _ _ _ | exact spec_l06Good.mono _ _ _ _ _ _ _ | exact LeO.refl _ | exact LeO.none _ | refine LeO.ite ?_ ?_ | refine LeO.bind ?_ (fun _ => ?_)
set_option maxHeartbeats 8000000 in
set_option maxRecDepth 100000 in
theorem spec_UpBound.calls (k : Nat) (A0_0 : Option Addr) (c0_0 : Nat) (l0_0 : List (S96)) (a0_1 : Int) (a0_2 : Int) (A1 : Option Addr) (c1 : Nat) (l1 : List (S103)) (a2 : Int) (a3 : Int) (r : Int) (w : World) (hr0_0 : Kd.C k96 w A0_0 l0_0.length l0_0) (hc0_0 : l0_0.length ≤ c0_0) (hr1 : Kd.C k103 w A1 l1.length l1) (hc1 : l1.length ≤ c1) (h : spec_UpBound.f k l0_0 a0_1 a0_2 l1 a2 a3 = some r) :
  Calls Try.prog 26 #[.agg #[.slice A0_0 l0_0.length c0_0, .int .i64 a0_1, .int .i64 a0_2], .slice A1 l1.length c1, .int .i64 a2, .int .i64 a3] w fun e w' => e = .returned (.int .i64 r) ∧ Below w.heap.size w w' := by
 have hu33 := Try.underlying33
 have hu96 := Try.underlying96
 have HR0_0 := ak_ hr0_0
 have HC0_0 := ak_ hc0_0
 clear hr0_0 hc0_0
 have HR1 := ak_ hr1
 have HC1 := ak_ hc1
 clear hr1 hc1
 have HB := ak_ (Below.refl w.heap.size w)
 have H : ((spec_l06Good.f k l0_0 a0_1 a0_2 l1 a2 a3).bind fun t505 => (if t505 = true then (if a0_1 = 2 then (some a3) else (if (l0_0.length : Int) = 0 then (some 1000) else (spec_UpBound.l0 k l1 a2 a3 (-1) 0 l0_0 a0_1 a0_2))) else (some (-1)))) = some r := h
 clear h
 replace H := Option.bind_eq_some_iff.mp H
 obtain ⟨t505, A50, H⟩ := H
 replace H : (if t505 = true then (if a0_1 = 2 then (some a3) else (if (l0_0.length : Int) = 0 then (some 1000) else (spec_UpBound.l0 k l1 a2 a3 (-1) 0 l0_0 a0_1 a0_2))) else (some (-1))) = some r := H
 have A5 := ak_ A50
 clear A50
 by_cases c6 : t505 = true
 ·subst c6
  rw [if_pos rfl] at H
  by_cases c7 : a0_1 = 2
  ·rw [if_pos c7] at H
   have c7b0 : (a0_1 == 2) = true := beq_iff_eq.mpr c7
   have c7b1 : (a0_1 != 2) = false := bne_eq_false_iff_eq.mpr c7
   clear c7
   obtain rfl := Option.some.inj H
   go_enter Try.func26, Try.ntmps26
   go_wp2_with (first | ((with_reducible refine gate_dst (N := 4) rfl ?_); refine be_ (N := 4) (cs := #[.slice A0_0 l0_0.length c0_0, .int .i64 a0_1, .int .i64 a0_2]) (t := 33) ?_; intro gb504 hg w8 hbox hb; have BK504 := ak_ hbox; have GW504 := ak_ ((gs_ hg : w.heap.size ≤ gb504)); have GE504 := ak_ ((gs_ hg : w.heap.size ≤ gb504)); replace HB := ak_ (below_step hb_ hb); clear hb hbox hg; obtain ⟨hcz9_0, hcz9_1, hcz9_2, hfz9_0, hfz9_1, hfz9_2⟩ := bc3_ BK504.out) | ((with_reducible refine gate_callee (f := 74) rfl ?_); refine goesL_ (some 18) rfl rfl Try.func74 (by kernel_rfl) rfl #[.agg #[.slice A0_0 l0_0.length c0_0, .int .i64 a0_1, .int .i64 a0_2], .slice A1 l1.length c1, .int .i64 a2, .int .i64 a3] rfl (ma4_ rfl rfl rfl rfl) ?_; (with_reducible refine (spec_l06Good.calls k _ _ l0_0 a0_1 a0_2 _ _ l1 a2 a3 true _ ?side1 ?side2 ?side3 ?side4 A5.out).mono ?_); (case side1 => exact kc_ HR0_0); (case side2 => exact HC0_0.out); (case side3 => exact kc_ HR1); (case side4 => exact HC1.out); rintro e w10 ⟨rfl, hb⟩; refine ⟨_, rfl, ?_⟩; replace BK504 := ak_ (blk_below (bk_ BK504) hb); replace HB := ak_ (below_step hb_ hb); (try clear hb); obtain ⟨hcz11_0, hcz11_1, hcz11_2, hfz11_0, hfz11_1, hfz11_2⟩ := bc3_ BK504.out))
   go_ret
   exact ⟨ew_, hb_⟩
  ·rw [if_neg c7] at H
   have c7b0 : (a0_1 == 2) = false := beq_eq_false_iff_ne.mpr c7
   have c7b1 : (a0_1 != 2) = true := bne_iff_ne.mpr c7
   by_cases c12 : (l0_0.length : Int) = 0
   ·rw [if_pos c12] at H
    have c12b0 : ((l0_0.length : Int) == 0) = true := beq_iff_eq.mpr c12
    have c12b1 : ((l0_0.length : Int) != 0) = false := bne_eq_false_iff_eq.mpr c12
    clear c12
    obtain rfl := Option.some.inj H
    go_enter Try.func26, Try.ntmps26
    go_wp2_with (first | ((with_reducible refine gate_dst (N := 4) rfl ?_); refine be_ (N := 4) (cs := #[.slice A0_0 l0_0.length c0_0, .int .i64 a0_1, .int .i64 a0_2]) (t := 33) ?_; intro gb504 hg w13 hbox hb; have BK504 := ak_ hbox; have GW504 := ak_ ((gs_ hg : w.heap.size ≤ gb504)); have GE504 := ak_ ((gs_ hg : w.heap.size ≤ gb504)); replace HB := ak_ (below_step hb_ hb); clear hb hbox hg; obtain ⟨hcz14_0, hcz14_1, hcz14_2, hfz14_0, hfz14_1, hfz14_2⟩ := bc3_ BK504.out) | ((with_reducible refine gate_callee (f := 74) rfl ?_); refine goesL_ (some 18) rfl rfl Try.func74 (by kernel_rfl) rfl #[.agg #[.slice A0_0 l0_0.length c0_0, .int .i64 a0_1, .int .i64 a0_2], .slice A1 l1.length c1, .int .i64 a2, .int .i64 a3] rfl (ma4_ rfl rfl rfl rfl) ?_; (with_reducible refine (spec_l06Good.calls k _ _ l0_0 a0_1 a0_2 _ _ l1 a2 a3 true _ ?side1 ?side2 ?side3 ?side4 A5.out).mono ?_); (case side1 => exact kc_ HR0_0); (case side2 => exact HC0_0.out); (case side3 => exact kc_ HR1); (case side4 => exact HC1.out); rintro e w15 ⟨rfl, hb⟩; refine ⟨_, rfl, ?_⟩; replace BK504 := ak_ (blk_below (bk_ BK504) hb); replace HB := ak_ (below_step hb_ hb); (try clear hb); obtain ⟨hcz16_0, hcz16_1, hcz16_2, hfz16_0, hfz16_1, hfz16_2⟩ := bc3_ BK504.out))
    go_ret
    exact ⟨ew_, hb_⟩
   ·rw [if_neg c12] at H
    have c12b0 : ((l0_0.length : Int) == 0) = false := beq_eq_false_iff_ne.mpr c12
    have c12b1 : ((l0_0.length : Int) != 0) = true := bne_iff_ne.mpr c12
    have c12b2 : ¬ (l0_0 = []) := fun h_ => c12 (by rw [h_]; rfl)
    have H' := ak_ H
    clear H
    go_enter Try.func26, Try.ntmps26
    go_wp2_with (first | ((with_reducible refine gate_dst (N := 4) rfl ?_); refine be_ (N := 4) (cs := #[.slice A0_0 l0_0.length c0_0, .int .i64 a0_1, .int .i64 a0_2]) (t := 33) ?_; intro gb504 hg w17 hbox hb; have BK504 := ak_ hbox; have GW504 := ak_ ((gs_ hg : w.heap.size ≤ gb504)); have GE504 := ak_ ((gs_ hg : w.heap.size ≤ gb504)); replace HB := ak_ (below_step hb_ hb); clear hb hbox hg; obtain ⟨hcz18_0, hcz18_1, hcz18_2, hfz18_0, hfz18_1, hfz18_2⟩ := bc3_ BK504.out) | ((with_reducible refine gate_callee (f := 74) rfl ?_); refine goesL_ (some 18) rfl rfl Try.func74 (by kernel_rfl) rfl #[.agg #[.slice A0_0 l0_0.length c0_0, .int .i64 a0_1, .int .i64 a0_2], .slice A1 l1.length c1, .int .i64 a2, .int .i64 a3] rfl (ma4_ rfl rfl rfl rfl) ?_; (with_reducible refine (spec_l06Good.calls k _ _ l0_0 a0_1 a0_2 _ _ l1 a2 a3 true _ ?side1 ?side2 ?side3 ?side4 A5.out).mono ?_); (case side1 => exact kc_ HR0_0); (case side2 => exact HC0_0.out); (case side3 => exact kc_ HR1); (case side4 => exact HC1.out); rintro e w19 ⟨rfl, hb⟩; refine ⟨_, rfl, ?_⟩; replace BK504 := ak_ (blk_below (bk_ BK504) hb); replace HB := ak_ (below_step hb_ hb); (try clear hb); obtain ⟨hcz20_0, hcz20_1, hcz20_2, hfz20_0, hfz20_1, hfz20_2⟩ := bc3_ BK504.out))
    go_loopg [9, 10] k (fun kq v9 v10 w' => ∃ (x9_1 : Int) (x10_1 : Int), v9 = .int .i64 x9_1 ∧ v10 = .int .i64 x10_1 ∧ Aside0 (spec_UpBound.l0 kq l1 a2 a3 x9_1 x10_1 l0_0 a0_1 a0_2 = some r) ∧ Aside0 (kq ≤ k) ∧ Aside0 (w'.heap[gb504]? = some (.cells #[(.slice A0_0 l0_0.length c0_0), .int .i64 a0_1, .int .i64 a0_2] 33 (0, 0))) ∧ Aside0 (Below w.heap.size w w'))
    case atStart => exact ⟨((-1)), (0), (by first | rfl | (simp; done) | (simp [*]; done)), (by first | rfl | (simp; done) | (simp [*]; done)), H', ⟨Nat.le_refl _⟩, ⟨by (with_reducible repeat (first | refine kn_ ?_ _ | refine kd_ ?_ | refine ka_ ?_ _)); exact BK504.out⟩, ⟨hb_⟩⟩
    case round =>
     clear H'
     try clear c1
     try clear c2
     try clear p2
     try clear c6
     try clear c7
     try clear c7b0
     try clear c7b1
     try clear c12
     try clear c12b0
     try clear c12b1
     try clear c12b2
     (try clear hcz11_0 hcz11_1 hcz11_2 hfz11_0 hfz11_1 hfz11_2); (try clear hcz14_0 hcz14_1 hcz14_2 hfz14_0 hfz14_1 hfz14_2); (try clear hcz16_0 hcz16_1 hcz16_2 hfz16_0 hfz16_1 hfz16_2); (try clear hcz18_0 hcz18_1 hcz18_2 hfz18_0 hfz18_1 hfz18_2); (try clear hcz20_0 hcz20_1 hcz20_2 hfz20_0 hfz20_1 hfz20_2); (try clear hcz9_0 hcz9_1 hcz9_2 hfz9_0 hfz9_1 hfz9_2)
     obtain ⟨x9_1, x10_1, rfl, rfl, HA, HK1, BK504, HB⟩ := hrel
     cases gk with
     | zero => exact absurd HA.out (by simp [spec_UpBound.l0])
     | succ k1 =>
      have H := HA.out
      clear HA
      simp only [spec_UpBound.l0] at H
      by_cases c21 : x10_1 < (l0_0.length : Int)
      ·rw [if_pos c21] at H
       have c21b0 : decide (x10_1 < (l0_0.length : Int)) = true := decide_eq_true c21
       clear c21
       by_cases c22 : 0 ≤ x10_1
       ·rw [if_pos c22] at H
        have c22b0 : decide (0 ≤ x10_1) = true := decide_eq_true c22
        clear c22
        replace H := Option.bind_eq_some_iff.mp H
        obtain ⟨t508, A230, H⟩ := H
        replace H : (if ((rd_T96 l0_0 x10_1).f0) = 1 then ((spec_CeilDiv.f (wrap64 (t508 * (wrap64 (100 + ((rd_T96 l0_0 x10_1).f1))))) 100).bind fun t509 => (spec_UpBound.j1 k1 l1 a2 a3 x9_1 x10_1 t509 l0_0 a0_1 a0_2)) else (spec_UpBound.j1 k1 l1 a2 a3 x9_1 x10_1 (wrap64 (t508 + ((rd_T96 l0_0 x10_1).f1))) l0_0 a0_1 a0_2)) = some r := H
        have A23 := ak_ A230
        clear A230
        have HC24 := ak_ H
        clear H
        obtain ⟨hcz25_0, hcz25_1, hcz25_2, hfz25_0, hfz25_1, hfz25_2⟩ := bc3_ BK504.out
        have p506 : 0 ≤ (x10_1 : Int) := of_decide_eq_true (by first | (with_reducible assumption) | assumption)
        have q506 : x10_1 < (l0_0.length : Int) := of_decide_eq_true (by first | (with_reducible assumption) | assumption)
        obtain ⟨ad506, e506, hx506_0, hx506_1, hx506_2⟩ := at_T96 HR0_0.out x10_1 p506 q506
        cases e506
        replace hx506_0 := cx_ HB hx506_0
        replace hx506_1 := cx_ HB hx506_1
        replace hx506_2 := cx_ HB hx506_2
        replace p506 := eq_true p506
        replace q506 := eq_true q506
        go_upto_if 51 with (first | ((with_reducible refine gate_dst (N := 11) rfl ?_); refine be_ (N := 11) (cs := #[.int .i64 0, .int .i64 0, .int .i64 0]) (t := 96) ?_; intro gb507 hg w26 hbox hb; have BK507 := ak_ hbox; have GW507 := ak_ ((gs_ hg : w.heap.size ≤ gb507)); have GE507 := ak_ ((gs_ hg : w.heap.size ≤ gb507)); replace HB := ak_ (below_step hb_ hb); have NB504_507 := ak_ (nl_ hg (bk_ BK504)); have NB507_504 := ak_ (ng_ hg (bk_ BK504)); replace BK504 := ak_ (blk_below (bk_ BK504) hb); clear hb hbox hg; have hnb27 := NB507_504.out; have hnc27 := NB504_507.out; obtain ⟨hcz28_0, hcz28_1, hcz28_2, hfz28_0, hfz28_1, hfz28_2⟩ := bc3_ BK507.out) | ((with_reducible refine gate_callee (f := 75) rfl ?_); refine goesL_ (some 44) rfl rfl Try.func75 (by kernel_rfl) rfl #[.agg #[.int .i64 ((rd_T96 l0_0 x10_1).f0), .int .i64 ((rd_T96 l0_0 x10_1).f1), .int .i64 ((rd_T96 l0_0 x10_1).f2)], .slice A1 l1.length c1, .int .i64 a2, .int .i64 a3] rfl (ma4_ rfl rfl rfl rfl) ?_; (with_reducible refine (spec_l06Base.calls k1 ((rd_T96 l0_0 x10_1).f0) ((rd_T96 l0_0 x10_1).f1) ((rd_T96 l0_0 x10_1).f2) _ _ l1 a2 a3 t508 _ ?side1 ?side2 A23.out).mono ?_); (case side1 => exact Kd.C_below HR1.out hb_); (case side2 => exact HC1.out); rintro e w29 ⟨rfl, hb⟩; refine ⟨_, rfl, ?_⟩; replace BK504 := ak_ (blk_below (bk_ BK504) hb); replace BK507 := ak_ (blk_below (g := gb507) (o := .cells #[.int .i64 ((rd_T96 l0_0 x10_1).f0), .int .i64 ((rd_T96 l0_0 x10_1).f1), .int .i64 ((rd_T96 l0_0 x10_1).f2)] 96 (0, 0)) (by (with_reducible repeat (first | refine kn_ ?_ _ | refine kd_ ?_ | refine ka_ ?_ _)); refine blk_put (cs := #[.int .i64 ((rd_T96 l0_0 x10_1).f0), .int .i64 ((rd_T96 l0_0 x10_1).f1), .int .i64 0]) ?_ 2 _ rfl; (with_reducible repeat (first | refine kn_ ?_ _ | refine kd_ ?_ | refine ka_ ?_ _)); refine blk_put (cs := #[.int .i64 ((rd_T96 l0_0 x10_1).f0), .int .i64 0, .int .i64 0]) ?_ 1 _ rfl; (with_reducible repeat (first | refine kn_ ?_ _ | refine kd_ ?_ | refine ka_ ?_ _)); refine blk_put (cs := #[.int .i64 0, .int .i64 0, .int .i64 0]) ?_ 0 _ rfl; (with_reducible repeat (first | refine kn_ ?_ _ | refine kd_ ?_ | refine ka_ ?_ _)); exact BK507.out) hb); replace HB := ak_ (below_step hb_ hb); (try clear hb); obtain ⟨hcz30_0, hcz30_1, hcz30_2, hfz30_0, hfz30_1, hfz30_2⟩ := bc3_ BK507.out))
        (try simp only [Act.put, List.setIfInBounds_toArray, List.set_cons_zero, List.set_cons_succ])
        go_cut [13] (fun v13 wc => ∃ (kq : Nat) (x13_23 : Int), v13 = .int .i64 x13_23 ∧ Aside0 (spec_UpBound.j1 kq l1 a2 a3 x9_1 x10_1 x13_23 l0_0 a0_1 a0_2 = some r) ∧ Aside0 (kq ≤ k1) ∧ Aside0 (wc.heap[gb504]? = some (.cells #[(.slice (some ad506) l0_0.length c0_0), .int .i64 a0_1, .int .i64 a0_2] 33 (0, 0))) ∧ Aside0 (wc.heap[gb507]? = some (.cells #[.int .i64 ((rd_T96 l0_0 x10_1).f0), .int .i64 ((rd_T96 l0_0 x10_1).f1), .int .i64 ((rd_T96 l0_0 x10_1).f2)] 96 (0, 0))) ∧ Aside0 (Below w.heap.size w wc))
        case first =>
         have H := HC24.out
         clear HC24
         by_cases c31 : ((rd_T96 l0_0 x10_1).f0) = 1
         ·rw [if_pos c31] at H
          have c31b0 : (((rd_T96 l0_0 x10_1).f0) == 1) = true := beq_iff_eq.mpr c31
          have c31b1 : (((rd_T96 l0_0 x10_1).f0) != 1) = false := bne_eq_false_iff_eq.mpr c31
          clear c31
          (first | rw [c31b0] | (simp only [i64_w, i32_w]; rw [c31b0]) | skip)
          replace H := Option.bind_eq_some_iff.mp H
          obtain ⟨t509, A320, H⟩ := H
          replace H : (spec_UpBound.j1 k1 l1 a2 a3 x9_1 x10_1 t509 l0_0 a0_1 a0_2) = some r := H
          have A32 := ak_ A320
          clear A320
          have H' := ak_ H
          clear H
          have hnb33 := NB507_504.out
          have hnc33 := NB504_507.out
          obtain ⟨hcz34_0, hcz34_1, hcz34_2, hfz34_0, hfz34_1, hfz34_2⟩ := bc3_ BK507.out
          go_wp2_with (first | ((with_reducible refine gate_callee (f := 76) rfl ?_); refine goesL_ (some 57) rfl rfl Try.func76 (by kernel_rfl) rfl #[.int .i64 (wrap64 (t508 * (wrap64 (100 + ((rd_T96 l0_0 x10_1).f1))))), .int .i64 100] rfl (ma2_ rfl rfl) ?_; (with_reducible refine (spec_CeilDiv.calls (wrap64 (t508 * (wrap64 (100 + ((rd_T96 l0_0 x10_1).f1))))) 100 t509 _ A32.out).mono ?_); rintro e w' ⟨rfl, ⟨nd, rfl⟩⟩; refine ⟨_, rfl, ?_⟩))
          go_meet
          case rel => exact ⟨_, (t509), (by first | rfl | (simp; done) | (simp [*]; done)), H', ⟨by have := HK1.out; first | omega | exact Nat.le_refl _⟩, ⟨by (with_reducible repeat (first | refine kn_ ?_ _ | refine kd_ ?_ | refine ka_ ?_ _)); exact BK504.out⟩, ⟨by (with_reducible repeat (first | refine kn_ ?_ _ | refine kd_ ?_ | refine ka_ ?_ _)); exact BK507.out⟩, ⟨hb_⟩⟩
         ·rw [if_neg c31] at H
          have c31b0 : (((rd_T96 l0_0 x10_1).f0) == 1) = false := beq_eq_false_iff_ne.mpr c31
          have c31b1 : (((rd_T96 l0_0 x10_1).f0) != 1) = true := bne_iff_ne.mpr c31
          (first | rw [c31b0] | (simp only [i64_w, i32_w]; rw [c31b0]) | skip)
          have H' := ak_ H
          clear H
          go_wp2
          go_meet
          case rel => exact ⟨_, (wrap64 (t508 + ((rd_T96 l0_0 x10_1).f1))), (by first | rfl | (simp; done) | (simp [*]; done)), H', ⟨by have := HK1.out; first | omega | exact Nat.le_refl _⟩, ⟨by (with_reducible repeat (first | refine kn_ ?_ _ | refine kd_ ?_ | refine ka_ ?_ _)); exact BK504.out⟩, ⟨by (with_reducible repeat (first | refine kn_ ?_ _ | refine kd_ ?_ | refine ka_ ?_ _)); exact BK507.out⟩, ⟨hb_⟩⟩
        case rest =>
         clear HC24
         try clear c1
         try clear c2
         try clear p2
         try clear c3
         try clear p5
         try clear q5
         try clear hx5
         try clear c6
         try clear p6
         try clear c7
         try clear c7b0
         try clear c7b1
         try clear c12
         try clear c12b0
         try clear c12b1
         try clear c12b2
         try clear c21
         try clear c21b0
         try clear c22
         try clear c22b0
         try clear c26
         try clear c27
         try clear c31
         try clear c31b0
         try clear c31b1
         try clear c33
         try clear hx506_0
         try clear hx506_1
         try clear hx506_2
         try clear p2
         try clear p506
         try clear q506
         (try clear hcz11_0 hcz11_1 hcz11_2 hfz11_0 hfz11_1 hfz11_2); (try clear hcz14_0 hcz14_1 hcz14_2 hfz14_0 hfz14_1 hfz14_2); (try clear hcz16_0 hcz16_1 hcz16_2 hfz16_0 hfz16_1 hfz16_2); (try clear hcz18_0 hcz18_1 hcz18_2 hfz18_0 hfz18_1 hfz18_2); (try clear hcz20_0 hcz20_1 hcz20_2 hfz20_0 hfz20_1 hfz20_2); (try clear hcz25_0 hcz25_1 hcz25_2 hfz25_0 hfz25_1 hfz25_2); (try clear hcz28_0 hcz28_1 hcz28_2 hfz28_0 hfz28_1 hfz28_2); (try clear hcz30_0 hcz30_1 hcz30_2 hfz30_0 hfz30_1 hfz30_2); (try clear hcz34_0 hcz34_1 hcz34_2 hfz34_0 hfz34_1 hfz34_2); (try clear hcz9_0 hcz9_1 hcz9_2 hfz9_0 hfz9_1 hfz9_2)
         obtain ⟨kq, x13_23, rfl, HA, HJ23, BK504, BK507, HB⟩ := hcut
         cases kq with
         | zero => exact absurd HA.out (by simp [spec_UpBound.j1])
         | succ kj23 =>
          have H := HA.out
          clear HA
          simp only [spec_UpBound.j1] at H
          by_cases c35 : x13_23 > 1000
          ·rw [if_pos c35] at H
           have c35b0 : decide (1000 < x13_23) = true := decide_eq_true c35
           clear c35
           by_cases c36 : x9_1 < 0
           ·rw [if_pos c36] at H
            have c36b0 : decide (x9_1 < 0) = true := decide_eq_true c36
            clear c36
            have H' := ak_ H
            clear H
            go_wp2
            go_roundg kj23
            case measure => have := HK1.out; have := HJ23.out; omega
            case rel => exact ⟨(1000), (wrap64 (x10_1 + 1)), (by first | rfl | (simp; done) | (simp [*]; done)), (by first | rfl | (simp; done) | (simp [*]; done)), H', ⟨by have := HK1.out; have := HJ23.out; omega⟩, ⟨by (with_reducible repeat (first | refine kn_ ?_ _ | refine kd_ ?_ | refine ka_ ?_ _)); exact BK504.out⟩, ⟨hb_⟩⟩
           ·rw [if_neg c36] at H
            have c36b0 : decide (x9_1 < 0) = false := decide_eq_false c36
            clear c36
            by_cases c37 : a0_1 = 0
            ·rw [if_pos c37] at H
             have c37b0 : (a0_1 == 0) = true := beq_iff_eq.mpr c37
             have c37b1 : (a0_1 != 0) = false := bne_eq_false_iff_eq.mpr c37
             clear c37
             by_cases c38 : 1000 > x9_1
             ·rw [if_pos c38] at H
              have c38b0 : decide (x9_1 < 1000) = true := decide_eq_true c38
              clear c38
              have H' := ak_ H
              clear H
              have hnb39 := NB504_507.out
              have hnc39 := NB507_504.out
              obtain ⟨hcz40_0, hcz40_1, hcz40_2, hfz40_0, hfz40_1, hfz40_2⟩ := bc3_ BK504.out
              go_wp2
              go_roundg kj23
              case measure => have := HK1.out; have := HJ23.out; omega
              case rel => exact ⟨(1000), (wrap64 (x10_1 + 1)), (by first | rfl | (simp; done) | (simp [*]; done)), (by first | rfl | (simp; done) | (simp [*]; done)), H', ⟨by have := HK1.out; have := HJ23.out; omega⟩, ⟨by (with_reducible repeat (first | refine kn_ ?_ _ | refine kd_ ?_ | refine ka_ ?_ _)); exact BK504.out⟩, ⟨hb_⟩⟩
             ·rw [if_neg c38] at H
              have c38b0 : decide (x9_1 < 1000) = false := decide_eq_false c38
              clear c38
              by_cases c41 : a0_1 = 1
              ·rw [if_pos c41] at H
               have c41b0 : (a0_1 == 1) = true := beq_iff_eq.mpr c41
               have c41b1 : (a0_1 != 1) = false := bne_eq_false_iff_eq.mpr c41
               clear c41
               by_cases c42 : 1000 < x9_1
               ·rw [if_pos c42] at H
                have c42b0 : decide (1000 < x9_1) = true := decide_eq_true c42
                clear c42
                have H' := ak_ H
                clear H
                have hnb43 := NB504_507.out
                have hnc43 := NB507_504.out
                obtain ⟨hcz44_0, hcz44_1, hcz44_2, hfz44_0, hfz44_1, hfz44_2⟩ := bc3_ BK504.out
                go_wp2
                go_roundg kj23
                case measure => have := HK1.out; have := HJ23.out; omega
                case rel => exact ⟨(1000), (wrap64 (x10_1 + 1)), (by first | rfl | (simp; done) | (simp [*]; done)), (by first | rfl | (simp; done) | (simp [*]; done)), H', ⟨by have := HK1.out; have := HJ23.out; omega⟩, ⟨by (with_reducible repeat (first | refine kn_ ?_ _ | refine kd_ ?_ | refine ka_ ?_ _)); exact BK504.out⟩, ⟨hb_⟩⟩
               ·rw [if_neg c42] at H
                have c42b0 : decide (1000 < x9_1) = false := decide_eq_false c42
                clear c42
                have H' := ak_ H
                clear H
                have hnb45 := NB504_507.out
                have hnc45 := NB507_504.out
                obtain ⟨hcz46_0, hcz46_1, hcz46_2, hfz46_0, hfz46_1, hfz46_2⟩ := bc3_ BK504.out
                go_wp2
                go_roundg kj23
                case measure => have := HK1.out; have := HJ23.out; omega
                case rel => exact ⟨(x9_1), (wrap64 (x10_1 + 1)), (by first | rfl | (simp; done) | (simp [*]; done)), (by first | rfl | (simp; done) | (simp [*]; done)), H', ⟨by have := HK1.out; have := HJ23.out; omega⟩, ⟨by (with_reducible repeat (first | refine kn_ ?_ _ | refine kd_ ?_ | refine ka_ ?_ _)); exact BK504.out⟩, ⟨hb_⟩⟩
              ·rw [if_neg c41] at H
               have c41b0 : (a0_1 == 1) = false := beq_eq_false_iff_ne.mpr c41
               have c41b1 : (a0_1 != 1) = true := bne_iff_ne.mpr c41
               have H' := ak_ H
               clear H
               have hnb47 := NB504_507.out
               have hnc47 := NB507_504.out
               obtain ⟨hcz48_0, hcz48_1, hcz48_2, hfz48_0, hfz48_1, hfz48_2⟩ := bc3_ BK504.out
               go_wp2
               go_roundg kj23
               case measure => have := HK1.out; have := HJ23.out; omega
               case rel => exact ⟨(x9_1), (wrap64 (x10_1 + 1)), (by first | rfl | (simp; done) | (simp [*]; done)), (by first | rfl | (simp; done) | (simp [*]; done)), H', ⟨by have := HK1.out; have := HJ23.out; omega⟩, ⟨by (with_reducible repeat (first | refine kn_ ?_ _ | refine kd_ ?_ | refine ka_ ?_ _)); exact BK504.out⟩, ⟨hb_⟩⟩
            ·rw [if_neg c37] at H
             have c37b0 : (a0_1 == 0) = false := beq_eq_false_iff_ne.mpr c37
             have c37b1 : (a0_1 != 0) = true := bne_iff_ne.mpr c37
             by_cases c49 : a0_1 = 1
             ·rw [if_pos c49] at H
              have c49b0 : (a0_1 == 1) = true := beq_iff_eq.mpr c49
              have c49b1 : (a0_1 != 1) = false := bne_eq_false_iff_eq.mpr c49
              clear c49
              by_cases c50 : 1000 < x9_1
              ·rw [if_pos c50] at H
               have c50b0 : decide (1000 < x9_1) = true := decide_eq_true c50
               clear c50
               have H' := ak_ H
               clear H
               have hnb51 := NB504_507.out
               have hnc51 := NB507_504.out
               obtain ⟨hcz52_0, hcz52_1, hcz52_2, hfz52_0, hfz52_1, hfz52_2⟩ := bc3_ BK504.out
               go_wp2
               go_roundg kj23
               case measure => have := HK1.out; have := HJ23.out; omega
               case rel => exact ⟨(1000), (wrap64 (x10_1 + 1)), (by first | rfl | (simp; done) | (simp [*]; done)), (by first | rfl | (simp; done) | (simp [*]; done)), H', ⟨by have := HK1.out; have := HJ23.out; omega⟩, ⟨by (with_reducible repeat (first | refine kn_ ?_ _ | refine kd_ ?_ | refine ka_ ?_ _)); exact BK504.out⟩, ⟨hb_⟩⟩
              ·rw [if_neg c50] at H
               have c50b0 : decide (1000 < x9_1) = false := decide_eq_false c50
               clear c50
               have H' := ak_ H
               clear H
               have hnb53 := NB504_507.out
               have hnc53 := NB507_504.out
               obtain ⟨hcz54_0, hcz54_1, hcz54_2, hfz54_0, hfz54_1, hfz54_2⟩ := bc3_ BK504.out
               go_wp2
               go_roundg kj23
               case measure => have := HK1.out; have := HJ23.out; omega
               case rel => exact ⟨(x9_1), (wrap64 (x10_1 + 1)), (by first | rfl | (simp; done) | (simp [*]; done)), (by first | rfl | (simp; done) | (simp [*]; done)), H', ⟨by have := HK1.out; have := HJ23.out; omega⟩, ⟨by (with_reducible repeat (first | refine kn_ ?_ _ | refine kd_ ?_ | refine ka_ ?_ _)); exact BK504.out⟩, ⟨hb_⟩⟩
             ·rw [if_neg c49] at H
              have c49b0 : (a0_1 == 1) = false := beq_eq_false_iff_ne.mpr c49
              have c49b1 : (a0_1 != 1) = true := bne_iff_ne.mpr c49
              have H' := ak_ H
              clear H
              have hnb55 := NB504_507.out
              have hnc55 := NB507_504.out
              obtain ⟨hcz56_0, hcz56_1, hcz56_2, hfz56_0, hfz56_1, hfz56_2⟩ := bc3_ BK504.out
              go_wp2
              go_roundg kj23
              case measure => have := HK1.out; have := HJ23.out; omega
              case rel => exact ⟨(x9_1), (wrap64 (x10_1 + 1)), (by first | rfl | (simp; done) | (simp [*]; done)), (by first | rfl | (simp; done) | (simp [*]; done)), H', ⟨by have := HK1.out; have := HJ23.out; omega⟩, ⟨by (with_reducible repeat (first | refine kn_ ?_ _ | refine kd_ ?_ | refine ka_ ?_ _)); exact BK504.out⟩, ⟨hb_⟩⟩
          ·rw [if_neg c35] at H
           have c35b0 : decide (1000 < x13_23) = false := decide_eq_false c35
           clear c35
           by_cases c57 : x9_1 < 0
           ·rw [if_pos c57] at H
            have c57b0 : decide (x9_1 < 0) = true := decide_eq_true c57
            clear c57
            have H' := ak_ H
            clear H
            go_wp2
            go_roundg kj23
            case measure => have := HK1.out; have := HJ23.out; omega
            case rel => exact ⟨(x13_23), (wrap64 (x10_1 + 1)), (by first | rfl | (simp; done) | (simp [*]; done)), (by first | rfl | (simp; done) | (simp [*]; done)), H', ⟨by have := HK1.out; have := HJ23.out; omega⟩, ⟨by (with_reducible repeat (first | refine kn_ ?_ _ | refine kd_ ?_ | refine ka_ ?_ _)); exact BK504.out⟩, ⟨hb_⟩⟩
           ·rw [if_neg c57] at H
            have c57b0 : decide (x9_1 < 0) = false := decide_eq_false c57
            clear c57
            by_cases c58 : a0_1 = 0
            ·rw [if_pos c58] at H
             have c58b0 : (a0_1 == 0) = true := beq_iff_eq.mpr c58
             have c58b1 : (a0_1 != 0) = false := bne_eq_false_iff_eq.mpr c58
             clear c58
             by_cases c59 : x13_23 > x9_1
             ·rw [if_pos c59] at H
              have c59b0 : decide (x9_1 < x13_23) = true := decide_eq_true c59
              clear c59
              have H' := ak_ H
              clear H
              have hnb60 := NB504_507.out
              have hnc60 := NB507_504.out
              obtain ⟨hcz61_0, hcz61_1, hcz61_2, hfz61_0, hfz61_1, hfz61_2⟩ := bc3_ BK504.out
              go_wp2
              go_roundg kj23
              case measure => have := HK1.out; have := HJ23.out; omega
              case rel => exact ⟨(x13_23), (wrap64 (x10_1 + 1)), (by first | rfl | (simp; done) | (simp [*]; done)), (by first | rfl | (simp; done) | (simp [*]; done)), H', ⟨by have := HK1.out; have := HJ23.out; omega⟩, ⟨by (with_reducible repeat (first | refine kn_ ?_ _ | refine kd_ ?_ | refine ka_ ?_ _)); exact BK504.out⟩, ⟨hb_⟩⟩
             ·rw [if_neg c59] at H
              have c59b0 : decide (x9_1 < x13_23) = false := decide_eq_false c59
              clear c59
              by_cases c62 : a0_1 = 1
              ·rw [if_pos c62] at H
               have c62b0 : (a0_1 == 1) = true := beq_iff_eq.mpr c62
               have c62b1 : (a0_1 != 1) = false := bne_eq_false_iff_eq.mpr c62
               clear c62
               by_cases c63 : x13_23 < x9_1
               ·rw [if_pos c63] at H
                have c63b0 : decide (x13_23 < x9_1) = true := decide_eq_true c63
                clear c63
                have H' := ak_ H
                clear H
                have hnb64 := NB504_507.out
                have hnc64 := NB507_504.out
                obtain ⟨hcz65_0, hcz65_1, hcz65_2, hfz65_0, hfz65_1, hfz65_2⟩ := bc3_ BK504.out
                go_wp2
                go_roundg kj23
                case measure => have := HK1.out; have := HJ23.out; omega
                case rel => exact ⟨(x13_23), (wrap64 (x10_1 + 1)), (by first | rfl | (simp; done) | (simp [*]; done)), (by first | rfl | (simp; done) | (simp [*]; done)), H', ⟨by have := HK1.out; have := HJ23.out; omega⟩, ⟨by (with_reducible repeat (first | refine kn_ ?_ _ | refine kd_ ?_ | refine ka_ ?_ _)); exact BK504.out⟩, ⟨hb_⟩⟩
               ·rw [if_neg c63] at H
                have c63b0 : decide (x13_23 < x9_1) = false := decide_eq_false c63
                clear c63
                have H' := ak_ H
                clear H
                have hnb66 := NB504_507.out
                have hnc66 := NB507_504.out
                obtain ⟨hcz67_0, hcz67_1, hcz67_2, hfz67_0, hfz67_1, hfz67_2⟩ := bc3_ BK504.out
                go_wp2
                go_roundg kj23
                case measure => have := HK1.out; have := HJ23.out; omega
                case rel => exact ⟨(x9_1), (wrap64 (x10_1 + 1)), (by first | rfl | (simp; done) | (simp [*]; done)), (by first | rfl | (simp; done) | (simp [*]; done)), H', ⟨by have := HK1.out; have := HJ23.out; omega⟩, ⟨by (with_reducible repeat (first | refine kn_ ?_ _ | refine kd_ ?_ | refine ka_ ?_ _)); exact BK504.out⟩, ⟨hb_⟩⟩
              ·rw [if_neg c62] at H
               have c62b0 : (a0_1 == 1) = false := beq_eq_false_iff_ne.mpr c62
               have c62b1 : (a0_1 != 1) = true := bne_iff_ne.mpr c62
               have H' := ak_ H
               clear H
               have hnb68 := NB504_507.out
               have hnc68 := NB507_504.out
               obtain ⟨hcz69_0, hcz69_1, hcz69_2, hfz69_0, hfz69_1, hfz69_2⟩ := bc3_ BK504.out
               go_wp2
               go_roundg kj23
               case measure => have := HK1.out; have := HJ23.out; omega
               case rel => exact ⟨(x9_1), (wrap64 (x10_1 + 1)), (by first | rfl | (simp; done) | (simp [*]; done)), (by first | rfl | (simp; done) | (simp [*]; done)), H', ⟨by have := HK1.out; have := HJ23.out; omega⟩, ⟨by (with_reducible repeat (first | refine kn_ ?_ _ | refine kd_ ?_ | refine ka_ ?_ _)); exact BK504.out⟩, ⟨hb_⟩⟩
            ·rw [if_neg c58] at H
             have c58b0 : (a0_1 == 0) = false := beq_eq_false_iff_ne.mpr c58
             have c58b1 : (a0_1 != 0) = true := bne_iff_ne.mpr c58
             by_cases c70 : a0_1 = 1
             ·rw [if_pos c70] at H
              have c70b0 : (a0_1 == 1) = true := beq_iff_eq.mpr c70
              have c70b1 : (a0_1 != 1) = false := bne_eq_false_iff_eq.mpr c70
              clear c70
              by_cases c71 : x13_23 < x9_1
              ·rw [if_pos c71] at H
               have c71b0 : decide (x13_23 < x9_1) = true := decide_eq_true c71
               clear c71
               have H' := ak_ H
               clear H
               have hnb72 := NB504_507.out
               have hnc72 := NB507_504.out
               obtain ⟨hcz73_0, hcz73_1, hcz73_2, hfz73_0, hfz73_1, hfz73_2⟩ := bc3_ BK504.out
               go_wp2
               go_roundg kj23
               case measure => have := HK1.out; have := HJ23.out; omega
               case rel => exact ⟨(x13_23), (wrap64 (x10_1 + 1)), (by first | rfl | (simp; done) | (simp [*]; done)), (by first | rfl | (simp; done) | (simp [*]; done)), H', ⟨by have := HK1.out; have := HJ23.out; omega⟩, ⟨by (with_reducible repeat (first | refine kn_ ?_ _ | refine kd_ ?_ | refine ka_ ?_ _)); exact BK504.out⟩, ⟨hb_⟩⟩
              ·rw [if_neg c71] at H
               have c71b0 : decide (x13_23 < x9_1) = false := decide_eq_false c71
               clear c71
               have H' := ak_ H
               clear H
               have hnb74 := NB504_507.out
               have hnc74 := NB507_504.out
               obtain ⟨hcz75_0, hcz75_1, hcz75_2, hfz75_0, hfz75_1, hfz75_2⟩ := bc3_ BK504.out
               go_wp2
               go_roundg kj23
               case measure => have := HK1.out; have := HJ23.out; omega
               case rel => exact ⟨(x9_1), (wrap64 (x10_1 + 1)), (by first | rfl | (simp; done) | (simp [*]; done)), (by first | rfl | (simp; done) | (simp [*]; done)), H', ⟨by have := HK1.out; have := HJ23.out; omega⟩, ⟨by (with_reducible repeat (first | refine kn_ ?_ _ | refine kd_ ?_ | refine ka_ ?_ _)); exact BK504.out⟩, ⟨hb_⟩⟩
             ·rw [if_neg c70] at H
              have c70b0 : (a0_1 == 1) = false := beq_eq_false_iff_ne.mpr c70
              have c70b1 : (a0_1 != 1) = true := bne_iff_ne.mpr c70
              have H' := ak_ H
              clear H
              have hnb76 := NB504_507.out
              have hnc76 := NB507_504.out
              obtain ⟨hcz77_0, hcz77_1, hcz77_2, hfz77_0, hfz77_1, hfz77_2⟩ := bc3_ BK504.out
              go_wp2
              go_roundg kj23
              case measure => have := HK1.out; have := HJ23.out; omega
              case rel => exact ⟨(x9_1), (wrap64 (x10_1 + 1)), (by first | rfl | (simp; done) | (simp [*]; done)), (by first | rfl | (simp; done) | (simp [*]; done)), H', ⟨by have := HK1.out; have := HJ23.out; omega⟩, ⟨by (with_reducible repeat (first | refine kn_ ?_ _ | refine kd_ ?_ | refine ka_ ?_ _)); exact BK504.out⟩, ⟨hb_⟩⟩
       ·rw [if_neg c22] at H
        exact absurd H (by simp)
      ·rw [if_neg c21] at H
       have c21b0 : decide (x10_1 < (l0_0.length : Int)) = false := decide_eq_false c21
       clear c21
       by_cases c78 : x9_1 < a3
       ·rw [if_pos c78] at H
        have c78b0 : decide (x9_1 < a3) = true := decide_eq_true c78
        clear c78
        obtain rfl := Option.some.inj H
        obtain ⟨hcz79_0, hcz79_1, hcz79_2, hfz79_0, hfz79_1, hfz79_2⟩ := bc3_ BK504.out
        go_wp2
        go_ret
        exact ⟨ew_, hb_⟩
       ·rw [if_neg c78] at H
        have c78b0 : decide (x9_1 < a3) = false := decide_eq_false c78
        clear c78
        obtain rfl := Option.some.inj H
        obtain ⟨hcz80_0, hcz80_1, hcz80_2, hfz80_0, hfz80_1, hfz80_2⟩ := bc3_ BK504.out
        go_wp2
        go_ret
        exact ⟨ew_, hb_⟩
 ·replace c6 := Bool.eq_false_iff.mpr c6
  subst c6
  rw [if_neg (show ¬ (false = true) by decide)] at H
  obtain rfl := Option.some.inj H
  go_enter Try.func26, Try.ntmps26
  go_wp2_with (first | ((with_reducible refine gate_dst (N := 4) rfl ?_); refine be_ (N := 4) (cs := #[.slice A0_0 l0_0.length c0_0, .int .i64 a0_1, .int .i64 a0_2]) (t := 33) ?_; intro gb504 hg w81 hbox hb; have BK504 := ak_ hbox; have GW504 := ak_ ((gs_ hg : w.heap.size ≤ gb504)); have GE504 := ak_ ((gs_ hg : w.heap.size ≤ gb504)); replace HB := ak_ (below_step hb_ hb); clear hb hbox hg; obtain ⟨hcz82_0, hcz82_1, hcz82_2, hfz82_0, hfz82_1, hfz82_2⟩ := bc3_ BK504.out) | ((with_reducible refine gate_callee (f := 74) rfl ?_); refine goesL_ (some 18) rfl rfl Try.func74 (by kernel_rfl) rfl #[.agg #[.slice A0_0 l0_0.length c0_0, .int .i64 a0_1, .int .i64 a0_2], .slice A1 l1.length c1, .int .i64 a2, .int .i64 a3] rfl (ma4_ rfl rfl rfl rfl) ?_; (with_reducible refine (spec_l06Good.calls k _ _ l0_0 a0_1 a0_2 _ _ l1 a2 a3 false _ ?side1 ?side2 ?side3 ?side4 A5.out).mono ?_); (case side1 => exact kc_ HR0_0); (case side2 => exact HC0_0.out); (case side3 => exact kc_ HR1); (case side4 => exact HC1.out); rintro e w83 ⟨rfl, hb⟩; refine ⟨_, rfl, ?_⟩; replace BK504 := ak_ (blk_below (bk_ BK504) hb); replace HB := ak_ (below_step hb_ hb); (try clear hb)))
  go_ret
  exact ⟨ew_, hb_⟩

end Go.Proofs.Ytfjjlipfjddaiaa.Bo
