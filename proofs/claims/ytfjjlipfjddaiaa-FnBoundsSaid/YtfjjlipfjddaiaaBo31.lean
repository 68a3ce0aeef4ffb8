-- PRINTED by print.py (a twelfth state) out of the translation. Not trusted: Lean checks it.
import Derived.Test.YtfjjlipfjddaiaaBo0
import Derived.Test.YtfjjlipfjddaiaaBo26
import Derived.Test.YtfjjlipfjddaiaaBo28
import Derived.Test.YtfjjlipfjddaiaaBo30
namespace Go.Proofs.Ytfjjlipfjddaiaa.Bo
open Go.RowKit Go.Proofs.YtfjjlipfjddaiaaW.PrintWords Go.Proofs.YtfjjlipfjddaiaaW.PrintLast Go.Proofs.YtfjjlipfjddaiaaW.PrintMore
attribute [local go_sem] max2_int min2_int max_two min_two max_three min_three max_four min_four   -- for this text's walks alone
set_option linter.unusedVariables false
set_option linter.unusedSimpArgs false

/-! ### spec_DownBound: function 27 -/
mutual
def spec_DownBound.l0 : Nat → List (S103) → Int → Int → Int → Int → List (S96) → Int → Int → Option (Int)
  | 0, _, _, _, _, _, _, _, _ => none
  | k + 1, x1, x2, x3, x9, x10, x511000, x511001, x511002 => if x10 < (x511000.length : Int) then (if 0 ≤ x10 then ((spec_l06Base.f k ((rd_T96 x511000 x10).f0) ((rd_T96 x511000 x10).f1) ((rd_T96 x511000 x10).f2) x1 x2 x3).bind fun t514 => (if t514 > 1000 then (spec_DownBound.j1 k x1 x2 x3 x9 x10 1000 x511000 x511001 x511002 ((rd_T96 x511000 x10).f0) ((rd_T96 x511000 x10).f1) ((rd_T96 x511000 x10).f2)) else (spec_DownBound.j1 k x1 x2 x3 x9 x10 t514 x511000 x511001 x511002 ((rd_T96 x511000 x10).f0) ((rd_T96 x511000 x10).f1) ((rd_T96 x511000 x10).f2)))) else (none)) else (if x9 > x3 then (some x3) else (some x9))
def spec_DownBound.j1 : Nat → List (S103) → Int → Int → Int → Int → Int → List (S96) → Int → Int → Int → Int → Int → Option (Int)
  | 0, _, _, _, _, _, _, _, _, _, _, _, _ => none
  | k + 1, x1, x2, x3, x9, x10, x12, x511000, x511001, x511002, x514000, x514001, x514002 => if x514000 = 1 then (if (wrap64 (100 - x514001)) < 0 then ((spec_FloorDiv.f (wrap64 (x12 * 0)) 100).bind fun t515 => (spec_DownBound.j2 k x1 x2 x3 x9 x10 t515 x511000 x511001 x511002)) else ((spec_FloorDiv.f (wrap64 (x12 * (wrap64 (100 - x514001)))) 100).bind fun t516 => (spec_DownBound.j2 k x1 x2 x3 x9 x10 t516 x511000 x511001 x511002))) else (spec_DownBound.j2 k x1 x2 x3 x9 x10 (wrap64 (x12 - x514001)) x511000 x511001 x511002)
def spec_DownBound.j2 : Nat → List (S103) → Int → Int → Int → Int → Int → List (S96) → Int → Int → Option (Int)
  | 0, _, _, _, _, _, _, _, _, _ => none
  | k + 1, x1, x2, x3, x9, x10, x13, x511000, x511001, x511002 => if x13 < 0 then (if x9 < 0 then (spec_DownBound.l0 k x1 x2 x3 0 (wrap64 (x10 + 1)) x511000 x511001 x511002) else (if x511001 = 0 then (if 0 < x9 then (spec_DownBound.l0 k x1 x2 x3 0 (wrap64 (x10 + 1)) x511000 x511001 x511002) else (if x511001 = 1 then (if 0 > x9 then (spec_DownBound.l0 k x1 x2 x3 0 (wrap64 (x10 + 1)) x511000 x511001 x511002) else (spec_DownBound.l0 k x1 x2 x3 x9 (wrap64 (x10 + 1)) x511000 x511001 x511002)) else (spec_DownBound.l0 k x1 x2 x3 x9 (wrap64 (x10 + 1)) x511000 x511001 x511002))) else (if x511001 = 1 then (if 0 > x9 then (spec_DownBound.l0 k x1 x2 x3 0 (wrap64 (x10 + 1)) x511000 x511001 x511002) else (spec_DownBound.l0 k x1 x2 x3 x9 (wrap64 (x10 + 1)) x511000 x511001 x511002)) else (spec_DownBound.l0 k x1 x2 x3 x9 (wrap64 (x10 + 1)) x511000 x511001 x511002)))) else (if x9 < 0 then (spec_DownBound.l0 k x1 x2 x3 x13 (wrap64 (x10 + 1)) x511000 x511001 x511002) else (if x511001 = 0 then (if x13 < x9 then (spec_DownBound.l0 k x1 x2 x3 x13 (wrap64 (x10 + 1)) x511000 x511001 x511002) else (if x511001 = 1 then (if x13 > x9 then (spec_DownBound.l0 k x1 x2 x3 x13 (wrap64 (x10 + 1)) x511000 x511001 x511002) else (spec_DownBound.l0 k x1 x2 x3 x9 (wrap64 (x10 + 1)) x511000 x511001 x511002)) else (spec_DownBound.l0 k x1 x2 x3 x9 (wrap64 (x10 + 1)) x511000 x511001 x511002))) else (if x511001 = 1 then (if x13 > x9 then (spec_DownBound.l0 k x1 x2 x3 x13 (wrap64 (x10 + 1)) x511000 x511001 x511002) else (spec_DownBound.l0 k x1 x2 x3 x9 (wrap64 (x10 + 1)) x511000 x511001 x511002)) else (spec_DownBound.l0 k x1 x2 x3 x9 (wrap64 (x10 + 1)) x511000 x511001 x511002))))
end
def spec_DownBound.f (k : Nat) (l0_0 : List (S96)) (a0_1 : Int) (a0_2 : Int) (l1 : List (S103)) (a2 : Int) (a3 : Int) : Option (Int) := (spec_l06Good.f k l0_0 a0_1 a0_2 l1 a2 a3).bind fun t511 => (if t511 = true then (if a0_1 = 2 then (some a3) else (if (l0_0.length : Int) = 0 then (some 0) else (spec_DownBound.l0 k l1 a2 a3 (-1) 0 l0_0 a0_1 a0_2))) else (some (-1)))
theorem spec_DownBound.mono_l : ∀ k, (∀ y0 y1 y2 y3 y4 y5 y6 y7, LeO (spec_DownBound.l0 k y0 y1 y2 y3 y4 y5 y6 y7) (spec_DownBound.l0 (k + 1) y0 y1 y2 y3 y4 y5 y6 y7)) ∧ (∀ y0 y1 y2 y3 y4 y5 y6 y7 y8 y9 y10 y11, LeO (spec_DownBound.j1 k y0 y1 y2 y3 y4 y5 y6 y7 y8 y9 y10 y11) (spec_DownBound.j1 (k + 1) y0 y1 y2 y3 y4 y5 y6 y7 y8 y9 y10 y11)) ∧ (∀ y0 y1 y2 y3 y4 y5 y6 y7 y8, LeO (spec_DownBound.j2 k y0 y1 y2 y3 y4 y5 y6 y7 y8) (spec_DownBound.j2 (k + 1) y0 y1 y2 y3 y4 y5 y6 y7 y8))
  | 0 => ⟨fun _ _ _ _ _ _ _ _ r h => by simp [spec_DownBound.l0] at h, fun _ _ _ _ _ _ _ _ _ _ _ _ r h => by simp [spec_DownBound.j1] at h, fun _ _ _ _ _ _ _ _ _ r h => by simp [spec_DownBound.j2] at h⟩
  | k + 1 => by
    obtain ⟨ih0, ih1, ih2⟩ := spec_DownBound.mono_l k
    refine ⟨?_, ?_, ?_⟩
    · intro y0 y1 y2 y3 y4 y5 y6 y7
      unfold spec_DownBound.l0
      repeat' with_reducible first | exact ih0 _ _ _ _ _ _ _ _ | exact ih1 _ _ _ _ _ _ _ _ _ _ _ _ | exact ih2 _ _ _ _ _ _ _ _ _ | exact spec_l06Base.mono _ _ _ _ _ _ _ | exact spec_l06Good.mono _ _ _ _ _ _ _ | exact LeO.refl _ | exact LeO.none _ | refine LeO.ite ?_ ?_ | refine LeO.bind ?_ (fun _ => ?_)
    · intro y0 y1 y2 y3 y4 y5 y6 y7 y8 y9 y10 y11
      unfold spec_DownBound.j1
      repeat' with_reducible first | exact ih0 _ _ _ _ _ _ _ _ | exact ih1 _ _ _ _ _ _ _ _ _ _ _ _ | exact ih2 _ _ _ _ _ _ _ _ _ | exact spec_l06Base.mono _ _ _ _ _ _ _ | exact spec_l06Good.mono _ _ _ _ _ _ _ | exact LeO.refl _ | exact LeO.none _ | refine LeO.ite ?_ ?_ | refine LeO.bind ?_ (fun _ => ?_)
    · intro y0 y1 y2 y3 y4 y5 y6 y7 y8
      unfold spec_DownBound.j2
      repeat' with_reducible first | exact ih0 _ _ _ _ _ _ _ _ | exact ih1 _ _ _ _ _ _ _ _ _ _ _ _ | exact ih2 _ _ _ _ _ _ _ _ _ | exact spec_l06Base.mono _ _ _ _ _ _ _ | exact spec_l06Good.mono _ _ _ _ _ _ _ | exact LeO.refl _ | exact LeO.none _ | refine LeO.ite ?_ ?_ | refine LeO.bind ?_ (fun _ => ?_)
theorem spec_DownBound.mono : ∀ a0 a1 a2 a3 a4 a5 k, LeO (spec_DownBound.f k a0 a1 a2 a3 a4 a5) (spec_DownBound.f (k + 1) a0 a1 a2 a3 a4 a5) := by
  intro a0 a1 a2 a3 a4 a5 k
  obtain ⟨ih0, ih1, ih2⟩ := spec_DownBound.mono_l k
  unfold spec_DownBound.f
  repeat' with_reducible first | exact ih0 _ _ _ _ _ _ _ _ | exact ih1 _ _ _ _ _ _ _ _ _ _ _ _ | exact ih2 _ _ _ _ _ _ _ _ _ | exact spec_l06Base.mono _ _ _ _ _ _ _ | exact spec_l06Good.mono _ _ _ _ _ _ _ | exact LeO.refl _ | exact LeO.none _ | refine LeO.ite ?_ ?_ | refine LeO.bind ?_ (fun _ => ?_)
set_option maxHeartbeats 8000000 in
set_option maxRecDepth 100000 in
theorem spec_DownBound.calls (k : Nat) (A0_0 : Option Addr) (c0_0 : Nat) (l0_0 : List (S96)) (a0_1 : Int) (a0_2 : Int) (A1 : Option Addr) (c1 : Nat) (l1 : List (S103)) (a2 : Int) (a3 : Int) (r : Int) (w : World) (hr0_0 : Kd.C k96 w A0_0 l0_0.length l0_0) (hc0_0 : l0_0.length ≤ c0_0) (hr1 : Kd.C k103 w A1 l1.length l1) (hc1 : l1.length ≤ c1) (h : spec_DownBound.f k l0_0 a0_1 a0_2 l1 a2 a3 = some r) :
  Calls Try.prog 27 #[.agg #[.slice A0_0 l0_0.length c0_0, .int .i64 a0_1, .int .i64 a0_2], .slice A1 l1.length c1, .int .i64 a2, .int .i64 a3] w fun e w' => e = .returned (.int .i64 r) ∧ Below w.heap.size w w' := by
 have hu33 := Try.underlying33
 have hu96 := Try.underlying96
 have HR0_0 := ak_ hr0_0
 have HC0_0 := ak_ hc0_0
 clear hr0_0 hc0_0
 have HR1 := ak_ hr1
 have HC1 := ak_ hc1
 clear hr1 hc1
 have HB := ak_ (Below.refl w.heap.size w)
 have H : ((spec_l06Good.f k l0_0 a0_1 a0_2 l1 a2 a3).bind fun t511 => (if t511 = true then (if a0_1 = 2 then (some a3) else (if (l0_0.length : Int) = 0 then (some 0) else (spec_DownBound.l0 k l1 a2 a3 (-1) 0 l0_0 a0_1 a0_2))) else (some (-1)))) = some r := h
 clear h
 replace H := Option.bind_eq_some_iff.mp H
 obtain ⟨t511, A50, H⟩ := H
 replace H : (if t511 = true then (if a0_1 = 2 then (some a3) else (if (l0_0.length : Int) = 0 then (some 0) else (spec_DownBound.l0 k l1 a2 a3 (-1) 0 l0_0 a0_1 a0_2))) else (some (-1))) = some r := H
 have A5 := ak_ A50
 clear A50
 by_cases c6 : t511 = true
 ·subst c6
  rw [if_pos rfl] at H
  by_cases c7 : a0_1 = 2
  ·rw [if_pos c7] at H
   have c7b0 : (a0_1 == 2) = true := beq_iff_eq.mpr c7
   have c7b1 : (a0_1 != 2) = false := bne_eq_false_iff_eq.mpr c7
   clear c7
   obtain rfl := Option.some.inj H
   go_enter Try.func27, Try.ntmps27
   go_wp2_with (first | ((with_reducible refine gate_dst (N := 4) rfl ?_); refine be_ (N := 4) (cs := #[.slice A0_0 l0_0.length c0_0, .int .i64 a0_1, .int .i64 a0_2]) (t := 33) ?_; intro gb510 hg w8 hbox hb; have BK510 := ak_ hbox; have GW510 := ak_ ((gs_ hg : w.heap.size ≤ gb510)); have GE510 := ak_ ((gs_ hg : w.heap.size ≤ gb510)); replace HB := ak_ (below_step hb_ hb); clear hb hbox hg; obtain ⟨hcz9_0, hcz9_1, hcz9_2, hfz9_0, hfz9_1, hfz9_2⟩ := bc3_ BK510.out) | ((with_reducible refine gate_callee (f := 74) rfl ?_); refine goesL_ (some 19) rfl rfl Try.func74 (by kernel_rfl) rfl #[.agg #[.slice A0_0 l0_0.length c0_0, .int .i64 a0_1, .int .i64 a0_2], .slice A1 l1.length c1, .int .i64 a2, .int .i64 a3] rfl (ma4_ rfl rfl rfl rfl) ?_; (with_reducible refine (spec_l06Good.calls k _ _ l0_0 a0_1 a0_2 _ _ l1 a2 a3 true _ ?side1 ?side2 ?side3 ?side4 A5.out).mono ?_); (case side1 => exact kc_ HR0_0); (case side2 => exact HC0_0.out); (case side3 => exact kc_ HR1); (case side4 => exact HC1.out); rintro e w10 ⟨rfl, hb⟩; refine ⟨_, rfl, ?_⟩; replace BK510 := ak_ (blk_below (bk_ BK510) hb); replace HB := ak_ (below_step hb_ hb); (try clear hb); obtain ⟨hcz11_0, hcz11_1, hcz11_2, hfz11_0, hfz11_1, hfz11_2⟩ := bc3_ BK510.out))
   go_ret
   exact ⟨ew_, hb_⟩
  ·rw [if_neg c7] at H
   have c7b0 : (a0_1 == 2) = false := beq_eq_false_iff_ne.mpr c7
   have c7b1 : (a0_1 != 2) = true := bne_iff_ne.mpr c7
   by_cases c12 : (l0_0.length : Int) = 0
   ·rw [if_pos c12] at H
    have c12b0 : ((l0_0.length : Int) == 0) = true := beq_iff_eq.mpr c12
    have c12b1 : ((l0_0.length : Int) != 0) = false := bne_eq_false_iff_eq.mpr c12
    clear c12
    obtain rfl := Option.some.inj H
    go_enter Try.func27, Try.ntmps27
    go_wp2_with (first | ((with_reducible refine gate_dst (N := 4) rfl ?_); refine be_ (N := 4) (cs := #[.slice A0_0 l0_0.length c0_0, .int .i64 a0_1, .int .i64 a0_2]) (t := 33) ?_; intro gb510 hg w13 hbox hb; have BK510 := ak_ hbox; have GW510 := ak_ ((gs_ hg : w.heap.size ≤ gb510)); have GE510 := ak_ ((gs_ hg : w.heap.size ≤ gb510)); replace HB := ak_ (below_step hb_ hb); clear hb hbox hg; obtain ⟨hcz14_0, hcz14_1, hcz14_2, hfz14_0, hfz14_1, hfz14_2⟩ := bc3_ BK510.out) | ((with_reducible refine gate_callee (f := 74) rfl ?_); refine goesL_ (some 19) rfl rfl Try.func74 (by kernel_rfl) rfl #[.agg #[.slice A0_0 l0_0.length c0_0, .int .i64 a0_1, .int .i64 a0_2], .slice A1 l1.length c1, .int .i64 a2, .int .i64 a3] rfl (ma4_ rfl rfl rfl rfl) ?_; (with_reducible refine (spec_l06Good.calls k _ _ l0_0 a0_1 a0_2 _ _ l1 a2 a3 true _ ?side1 ?side2 ?side3 ?side4 A5.out).mono ?_); (case side1 => exact kc_ HR0_0); (case side2 => exact HC0_0.out); (case side3 => exact kc_ HR1); (case side4 => exact HC1.out); rintro e w15 ⟨rfl, hb⟩; refine ⟨_, rfl, ?_⟩; replace BK510 := ak_ (blk_below (bk_ BK510) hb); replace HB := ak_ (below_step hb_ hb); (try clear hb); obtain ⟨hcz16_0, hcz16_1, hcz16_2, hfz16_0, hfz16_1, hfz16_2⟩ := bc3_ BK510.out))
    go_ret
    exact ⟨ew_, hb_⟩
   ·rw [if_neg c12] at H
    have c12b0 : ((l0_0.length : Int) == 0) = false := beq_eq_false_iff_ne.mpr c12
    have c12b1 : ((l0_0.length : Int) != 0) = true := bne_iff_ne.mpr c12
    have c12b2 : ¬ (l0_0 = []) := fun h_ => c12 (by rw [h_]; rfl)
    have H' := ak_ H
    clear H
    go_enter Try.func27, Try.ntmps27
    go_wp2_with (first | ((with_reducible refine gate_dst (N := 4) rfl ?_); refine be_ (N := 4) (cs := #[.slice A0_0 l0_0.length c0_0, .int .i64 a0_1, .int .i64 a0_2]) (t := 33) ?_; intro gb510 hg w17 hbox hb; have BK510 := ak_ hbox; have GW510 := ak_ ((gs_ hg : w.heap.size ≤ gb510)); have GE510 := ak_ ((gs_ hg : w.heap.size ≤ gb510)); replace HB := ak_ (below_step hb_ hb); clear hb hbox hg; obtain ⟨hcz18_0, hcz18_1, hcz18_2, hfz18_0, hfz18_1, hfz18_2⟩ := bc3_ BK510.out) | ((with_reducible refine gate_callee (f := 74) rfl ?_); refine goesL_ (some 19) rfl rfl Try.func74 (by kernel_rfl) rfl #[.agg #[.slice A0_0 l0_0.length c0_0, .int .i64 a0_1, .int .i64 a0_2], .slice A1 l1.length c1, .int .i64 a2, .int .i64 a3] rfl (ma4_ rfl rfl rfl rfl) ?_; (with_reducible refine (spec_l06Good.calls k _ _ l0_0 a0_1 a0_2 _ _ l1 a2 a3 true _ ?side1 ?side2 ?side3 ?side4 A5.out).mono ?_); (case side1 => exact kc_ HR0_0); (case side2 => exact HC0_0.out); (case side3 => exact kc_ HR1); (case side4 => exact HC1.out); rintro e w19 ⟨rfl, hb⟩; refine ⟨_, rfl, ?_⟩; replace BK510 := ak_ (blk_below (bk_ BK510) hb); replace HB := ak_ (below_step hb_ hb); (try clear hb); obtain ⟨hcz20_0, hcz20_1, hcz20_2, hfz20_0, hfz20_1, hfz20_2⟩ := bc3_ BK510.out))
    go_loopg [9, 10] k (fun kq v9 v10 w' => ∃ (x9_1 : Int) (x10_1 : Int), v9 = .int .i64 x9_1 ∧ v10 = .int .i64 x10_1 ∧ Aside0 (spec_DownBound.l0 kq l1 a2 a3 x9_1 x10_1 l0_0 a0_1 a0_2 = some r) ∧ Aside0 (kq ≤ k) ∧ Aside0 (w'.heap[gb510]? = some (.cells #[(.slice A0_0 l0_0.length c0_0), .int .i64 a0_1, .int .i64 a0_2] 33 (0, 0))) ∧ Aside0 (Below w.heap.size w w'))
    case atStart => exact ⟨((-1)), (0), (by first | rfl | (simp; done) | (simp [*]; done) | (exfalso; simp_all; done)), (by first | rfl | (simp; done) | (simp [*]; done) | (exfalso; simp_all; done)), H', ⟨Nat.le_refl _⟩, ⟨by (with_reducible repeat (first | refine kn_ ?_ _ | refine kd_ ?_ | refine ka_ ?_ _)); exact BK510.out⟩, ⟨hb_⟩⟩
    case round =>
     clear H'
     try clear c1
     try clear c2
     try clear p2
     try clear c6
     try clear c7
     try clear c7b0
     try clear c7b1
     try clear c12
     try clear c12b0
     try clear c12b1
     try clear c12b2
     (try clear hcz11_0 hcz11_1 hcz11_2 hfz11_0 hfz11_1 hfz11_2); (try clear hcz14_0 hcz14_1 hcz14_2 hfz14_0 hfz14_1 hfz14_2); (try clear hcz16_0 hcz16_1 hcz16_2 hfz16_0 hfz16_1 hfz16_2); (try clear hcz18_0 hcz18_1 hcz18_2 hfz18_0 hfz18_1 hfz18_2); (try clear hcz20_0 hcz20_1 hcz20_2 hfz20_0 hfz20_1 hfz20_2); (try clear hcz9_0 hcz9_1 hcz9_2 hfz9_0 hfz9_1 hfz9_2)
     obtain ⟨x9_1, x10_1, rfl, rfl, HA, HK1, BK510, HB⟩ := hrel
     cases gk with
     | zero => exact absurd HA.out (by simp [spec_DownBound.l0])
     | succ k1 =>
      have H := HA.out
      clear HA
      simp only [spec_DownBound.l0] at H
      by_cases c21 : x10_1 < (l0_0.length : Int)
      ·rw [if_pos c21] at H
       have c21b0 : decide (x10_1 < (l0_0.length : Int)) = true := decide_eq_true c21
       clear c21
       by_cases c22 : 0 ≤ x10_1
       ·rw [if_pos c22] at H
        have c22b0 : decide (0 ≤ x10_1) = true := decide_eq_true c22
        clear c22
        replace H := Option.bind_eq_some_iff.mp H
        obtain ⟨t514, A230, H⟩ := H
        replace H : (if t514 > 1000 then (spec_DownBound.j1 k1 l1 a2 a3 x9_1 x10_1 1000 l0_0 a0_1 a0_2 ((rd_T96 l0_0 x10_1).f0) ((rd_T96 l0_0 x10_1).f1) ((rd_T96 l0_0 x10_1).f2)) else (spec_DownBound.j1 k1 l1 a2 a3 x9_1 x10_1 t514 l0_0 a0_1 a0_2 ((rd_T96 l0_0 x10_1).f0) ((rd_T96 l0_0 x10_1).f1) ((rd_T96 l0_0 x10_1).f2))) = some r := H
        have A23 := ak_ A230
        clear A230
        have HC24 := ak_ H
        clear H
        obtain ⟨hcz25_0, hcz25_1, hcz25_2, hfz25_0, hfz25_1, hfz25_2⟩ := bc3_ BK510.out
        have p512 : 0 ≤ (x10_1 : Int) := of_decide_eq_true (by first | (with_reducible assumption) | assumption)
        have q512 : x10_1 < (l0_0.length : Int) := of_decide_eq_true (by first | (with_reducible assumption) | assumption)
        obtain ⟨ad512, e512, hx512_0, hx512_1, hx512_2⟩ := at_T96 HR0_0.out x10_1 p512 q512
        cases e512
        replace hx512_0 := cx_ HB hx512_0
        replace hx512_1 := cx_ HB hx512_1
        replace hx512_2 := cx_ HB hx512_2
        replace p512 := eq_true p512
        replace q512 := eq_true q512
        go_upto_if 47 with (first | ((with_reducible refine gate_dst (N := 11) rfl ?_); refine be_ (N := 11) (cs := #[.int .i64 0, .int .i64 0, .int .i64 0]) (t := 96) ?_; intro gb513 hg w26 hbox hb; have BK513 := ak_ hbox; have GW513 := ak_ ((gs_ hg : w.heap.size ≤ gb513)); have GE513 := ak_ ((gs_ hg : w.heap.size ≤ gb513)); replace HB := ak_ (below_step hb_ hb); have NB510_513 := ak_ (nl_ hg (bk_ BK510)); have NB513_510 := ak_ (ng_ hg (bk_ BK510)); replace BK510 := ak_ (blk_below (bk_ BK510) hb); clear hb hbox hg; have hnb27 := NB513_510.out; have hnc27 := NB510_513.out; obtain ⟨hcz28_0, hcz28_1, hcz28_2, hfz28_0, hfz28_1, hfz28_2⟩ := bc3_ BK513.out) | ((with_reducible refine gate_callee (f := 75) rfl ?_); refine goesL_ (some 45) rfl rfl Try.func75 (by kernel_rfl) rfl #[.agg #[.int .i64 ((rd_T96 l0_0 x10_1).f0), .int .i64 ((rd_T96 l0_0 x10_1).f1), .int .i64 ((rd_T96 l0_0 x10_1).f2)], .slice A1 l1.length c1, .int .i64 a2, .int .i64 a3] rfl (ma4_ rfl rfl rfl rfl) ?_; (with_reducible refine (spec_l06Base.calls k1 ((rd_T96 l0_0 x10_1).f0) ((rd_T96 l0_0 x10_1).f1) ((rd_T96 l0_0 x10_1).f2) _ _ l1 a2 a3 t514 _ ?side1 ?side2 A23.out).mono ?_); (case side1 => exact Kd.C_below HR1.out hb_); (case side2 => exact HC1.out); rintro e w29 ⟨rfl, hb⟩; refine ⟨_, rfl, ?_⟩; replace BK510 := ak_ (blk_below (bk_ BK510) hb); replace BK513 := ak_ (blk_below (g := gb513) (o := .cells #[.int .i64 ((rd_T96 l0_0 x10_1).f0), .int .i64 ((rd_T96 l0_0 x10_1).f1), .int .i64 ((rd_T96 l0_0 x10_1).f2)] 96 (0, 0)) (by (with_reducible repeat (first | refine kn_ ?_ _ | refine kd_ ?_ | refine ka_ ?_ _)); refine blk_put (cs := #[.int .i64 ((rd_T96 l0_0 x10_1).f0), .int .i64 ((rd_T96 l0_0 x10_1).f1), .int .i64 0]) ?_ 2 _ rfl; (with_reducible repeat (first | refine kn_ ?_ _ | refine kd_ ?_ | refine ka_ ?_ _)); refine blk_put (cs := #[.int .i64 ((rd_T96 l0_0 x10_1).f0), .int .i64 0, .int .i64 0]) ?_ 1 _ rfl; (with_reducible repeat (first | refine kn_ ?_ _ | refine kd_ ?_ | refine ka_ ?_ _)); refine blk_put (cs := #[.int .i64 0, .int .i64 0, .int .i64 0]) ?_ 0 _ rfl; (with_reducible repeat (first | refine kn_ ?_ _ | refine kd_ ?_ | refine ka_ ?_ _)); exact BK513.out) hb); replace HB := ak_ (below_step hb_ hb); (try clear hb)))
        (try simp only [Act.put, List.setIfInBounds_toArray, List.set_cons_zero, List.set_cons_succ])
        go_cut [12] (fun v12 wc => ∃ (kq : Nat) (x12_23 : Int), v12 = .int .i64 x12_23 ∧ Aside0 (spec_DownBound.j1 kq l1 a2 a3 x9_1 x10_1 x12_23 l0_0 a0_1 a0_2 ((rd_T96 l0_0 x10_1).f0) ((rd_T96 l0_0 x10_1).f1) ((rd_T96 l0_0 x10_1).f2) = some r) ∧ Aside0 (kq ≤ k1) ∧ Aside0 (wc.heap[gb510]? = some (.cells #[(.slice (some ad512) l0_0.length c0_0), .int .i64 a0_1, .int .i64 a0_2] 33 (0, 0))) ∧ Aside0 (wc.heap[gb513]? = some (.cells #[.int .i64 ((rd_T96 l0_0 x10_1).f0), .int .i64 ((rd_T96 l0_0 x10_1).f1), .int .i64 ((rd_T96 l0_0 x10_1).f2)] 96 (0, 0))) ∧ Aside0 (Below w.heap.size w wc))
        case first =>
         have H := HC24.out
         clear HC24
         by_cases c30 : t514 > 1000
         ·rw [if_pos c30] at H
          have c30b0 : decide (1000 < t514) = true := decide_eq_true c30
          clear c30
          (first | rw [c30b0] | (simp only [i64_w, i32_w]; rw [c30b0]) | skip)
          have H' := ak_ H
          clear H
          go_wp2
          go_meet
          case rel => exact ⟨_, (1000), (by first | rfl | (simp; done) | (simp [*]; done) | (exfalso; simp_all; done)), H', ⟨by have := HK1.out; first | omega | exact Nat.le_refl _⟩, ⟨by (with_reducible repeat (first | refine kn_ ?_ _ | refine kd_ ?_ | refine ka_ ?_ _)); exact BK510.out⟩, ⟨by (with_reducible repeat (first | refine kn_ ?_ _ | refine kd_ ?_ | refine ka_ ?_ _)); exact BK513.out⟩, ⟨hb_⟩⟩
         ·rw [if_neg c30] at H
          have c30b0 : decide (1000 < t514) = false := decide_eq_false c30
          clear c30
          (first | rw [c30b0] | (simp only [i64_w, i32_w]; rw [c30b0]) | skip)
          have H' := ak_ H
          clear H
          go_wp2
          go_meet
          case rel => exact ⟨_, (t514), (by first | rfl | (simp; done) | (simp [*]; done) | (exfalso; simp_all; done)), H', ⟨by have := HK1.out; first | omega | exact Nat.le_refl _⟩, ⟨by (with_reducible repeat (first | refine kn_ ?_ _ | refine kd_ ?_ | refine ka_ ?_ _)); exact BK510.out⟩, ⟨by (with_reducible repeat (first | refine kn_ ?_ _ | refine kd_ ?_ | refine ka_ ?_ _)); exact BK513.out⟩, ⟨hb_⟩⟩
        case rest =>
         clear HC24
         try clear c1
         try clear c2
         try clear p2
         try clear c3
         try clear p5
         try clear q5
         try clear hx5
         try clear c6
         try clear c7
         try clear c7b0
         try clear c7b1
         try clear c12
         try clear c12b0
         try clear c12b1
         try clear c12b2
         try clear c21
         try clear c21b0
         try clear c22
         try clear c22b0
         try clear c27
         try clear c30
         try clear c30b0
         try clear hx512_0
         try clear hx512_1
         try clear hx512_2
         try clear p2
         try clear p512
         try clear q512
         (try clear hcz11_0 hcz11_1 hcz11_2 hfz11_0 hfz11_1 hfz11_2); (try clear hcz14_0 hcz14_1 hcz14_2 hfz14_0 hfz14_1 hfz14_2); (try clear hcz16_0 hcz16_1 hcz16_2 hfz16_0 hfz16_1 hfz16_2); (try clear hcz18_0 hcz18_1 hcz18_2 hfz18_0 hfz18_1 hfz18_2); (try clear hcz20_0 hcz20_1 hcz20_2 hfz20_0 hfz20_1 hfz20_2); (try clear hcz25_0 hcz25_1 hcz25_2 hfz25_0 hfz25_1 hfz25_2); (try clear hcz28_0 hcz28_1 hcz28_2 hfz28_0 hfz28_1 hfz28_2); (try clear hcz9_0 hcz9_1 hcz9_2 hfz9_0 hfz9_1 hfz9_2)
         obtain ⟨kq, x12_23, rfl, HA, HJ23, BK510, BK513, HB⟩ := hcut
         cases kq with
         | zero => exact absurd HA.out (by simp [spec_DownBound.j1])
         | succ kj23 =>
          have H := HA.out
          clear HA
          simp only [spec_DownBound.j1] at H
          have HC31 := ak_ H
          clear H
          have hnb32 := NB513_510.out
          have hnc32 := NB510_513.out
          obtain ⟨hcz33_0, hcz33_1, hcz33_2, hfz33_0, hfz33_1, hfz33_2⟩ := bc3_ BK513.out
          go_upto_if 54 with (fail)
          go_cut [13] (fun v13 wc => ∃ (kq : Nat) (x13_30 : Int), v13 = .int .i64 x13_30 ∧ Aside0 (spec_DownBound.j2 kq l1 a2 a3 x9_1 x10_1 x13_30 l0_0 a0_1 a0_2 = some r) ∧ Aside0 (kq ≤ kj23) ∧ Aside0 (wc.heap[gb510]? = some (.cells #[(.slice (some ad512) l0_0.length c0_0), .int .i64 a0_1, .int .i64 a0_2] 33 (0, 0))) ∧ Aside0 (wc.heap[gb513]? = some (.cells #[.int .i64 ((rd_T96 l0_0 x10_1).f0), .int .i64 ((rd_T96 l0_0 x10_1).f1), .int .i64 ((rd_T96 l0_0 x10_1).f2)] 96 (0, 0))) ∧ Aside0 (Below w.heap.size w wc))
          case first =>
           have H := HC31.out
           clear HC31
           by_cases c34 : ((rd_T96 l0_0 x10_1).f0) = 1
           ·rw [if_pos c34] at H
            have c34b0 : (((rd_T96 l0_0 x10_1).f0) == 1) = true := beq_iff_eq.mpr c34
            have c34b1 : (((rd_T96 l0_0 x10_1).f0) != 1) = false := bne_eq_false_iff_eq.mpr c34
            clear c34
            (first | rw [c34b0] | (simp only [i64_w, i32_w]; rw [c34b0]) | skip)
            by_cases c35 : (wrap64 (100 - ((rd_T96 l0_0 x10_1).f1))) < 0
            ·rw [if_pos c35] at H
             have c35b0 : decide ((wrap64 (100 - ((rd_T96 l0_0 x10_1).f1))) < 0) = true := decide_eq_true c35
             clear c35
             replace H := Option.bind_eq_some_iff.mp H
             obtain ⟨t515, A360, H⟩ := H
             replace H : (spec_DownBound.j2 kj23 l1 a2 a3 x9_1 x10_1 t515 l0_0 a0_1 a0_2) = some r := H
             have A36 := ak_ A360
             clear A360
             have H' := ak_ H
             clear H
             have hnb37 := NB513_510.out
             have hnc37 := NB510_513.out
             obtain ⟨hcz38_0, hcz38_1, hcz38_2, hfz38_0, hfz38_1, hfz38_2⟩ := bc3_ BK513.out
             go_wp2_with (first | ((with_reducible refine gate_callee (f := 77) rfl ?_); refine goesL_ (some 63) rfl rfl Try.func77 (by kernel_rfl) rfl #[.int .i64 (wrap64 (x12_23 * 0)), .int .i64 100] rfl (by (try simp only [List.map_toArray, List.map_cons, List.map_nil]); first | done | rfl | (simp only [Int.mul_zero, wr0_]; rfl) | (simp only [List.length_drop, List.length_take]; rfl)) ?_; (with_reducible refine (spec_FloorDiv.calls (wrap64 (x12_23 * 0)) 100 t515 _ A36.out).mono ?_); rintro e w' ⟨rfl, ⟨nd, rfl⟩⟩; refine ⟨_, rfl, ?_⟩))
             go_meet
             case rel => exact ⟨_, (t515), (by first | rfl | (simp; done) | (simp [*]; done) | (exfalso; simp_all; done)), H', ⟨by have := HK1.out; have := HJ23.out; first | omega | exact Nat.le_refl _⟩, ⟨by (with_reducible repeat (first | refine kn_ ?_ _ | refine kd_ ?_ | refine ka_ ?_ _)); exact BK510.out⟩, ⟨by (with_reducible repeat (first | refine kn_ ?_ _ | refine kd_ ?_ | refine ka_ ?_ _)); exact BK513.out⟩, ⟨hb_⟩⟩
            ·rw [if_neg c35] at H
             have c35b0 : decide ((wrap64 (100 - ((rd_T96 l0_0 x10_1).f1))) < 0) = false := decide_eq_false c35
             clear c35
             replace H := Option.bind_eq_some_iff.mp H
             obtain ⟨t516, A390, H⟩ := H
             replace H : (spec_DownBound.j2 kj23 l1 a2 a3 x9_1 x10_1 t516 l0_0 a0_1 a0_2) = some r := H
             have A39 := ak_ A390
             clear A390
             have H' := ak_ H
             clear H
             have hnb40 := NB513_510.out
             have hnc40 := NB510_513.out
             obtain ⟨hcz41_0, hcz41_1, hcz41_2, hfz41_0, hfz41_1, hfz41_2⟩ := bc3_ BK513.out
             go_wp2_with (first | ((with_reducible refine gate_callee (f := 77) rfl ?_); refine goesL_ (some 63) rfl rfl Try.func77 (by kernel_rfl) rfl #[.int .i64 (wrap64 (x12_23 * (wrap64 (100 - ((rd_T96 l0_0 x10_1).f1))))), .int .i64 100] rfl (ma2_ rfl rfl) ?_; (with_reducible refine (spec_FloorDiv.calls (wrap64 (x12_23 * (wrap64 (100 - ((rd_T96 l0_0 x10_1).f1))))) 100 t516 _ A39.out).mono ?_); rintro e w' ⟨rfl, ⟨nd, rfl⟩⟩; refine ⟨_, rfl, ?_⟩))
             go_meet
             case rel => exact ⟨_, (t516), (by first | rfl | (simp; done) | (simp [*]; done) | (exfalso; simp_all; done)), H', ⟨by have := HK1.out; have := HJ23.out; first | omega | exact Nat.le_refl _⟩, ⟨by (with_reducible repeat (first | refine kn_ ?_ _ | refine kd_ ?_ | refine ka_ ?_ _)); exact BK510.out⟩, ⟨by (with_reducible repeat (first | refine kn_ ?_ _ | refine kd_ ?_ | refine ka_ ?_ _)); exact BK513.out⟩, ⟨hb_⟩⟩
           ·rw [if_neg c34] at H
            have c34b0 : (((rd_T96 l0_0 x10_1).f0) == 1) = false := beq_eq_false_iff_ne.mpr c34
            have c34b1 : (((rd_T96 l0_0 x10_1).f0) != 1) = true := bne_iff_ne.mpr c34
            (first | rw [c34b0] | (simp only [i64_w, i32_w]; rw [c34b0]) | skip)
            have H' := ak_ H
            clear H
            go_wp2
            go_meet
            case rel => exact ⟨_, (wrap64 (x12_23 - ((rd_T96 l0_0 x10_1).f1))), (by first | rfl | (simp; done) | (simp [*]; done) | (exfalso; simp_all; done)), H', ⟨by have := HK1.out; have := HJ23.out; first | omega | exact Nat.le_refl _⟩, ⟨by (with_reducible repeat (first | refine kn_ ?_ _ | refine kd_ ?_ | refine ka_ ?_ _)); exact BK510.out⟩, ⟨by (with_reducible repeat (first | refine kn_ ?_ _ | refine kd_ ?_ | refine ka_ ?_ _)); exact BK513.out⟩, ⟨hb_⟩⟩
          case rest =>
           clear HC31
           try clear c1
           try clear c2
           try clear p2
           try clear c3
           try clear c4
           try clear p5
           try clear q5
           try clear hx5
           try clear c6
           try clear p6
           try clear c7
           try clear c7b0
           try clear c7b1
           try clear c12
           try clear c12b0
           try clear c12b1
           try clear c12b2
           try clear c21
           try clear c21b0
           try clear c22
           try clear c22b0
           try clear c27
           try clear c30
           try clear c30b0
           try clear c32
           try clear c34
           try clear c34b0
           try clear c34b1
           try clear c35
           try clear c35b0
           try clear c37
           try clear c40
           try clear hx512_0
           try clear hx512_1
           try clear hx512_2
           try clear p2
           try clear p5
           try clear p512
           try clear q5
           try clear q512
           (try clear hcz11_0 hcz11_1 hcz11_2 hfz11_0 hfz11_1 hfz11_2); (try clear hcz14_0 hcz14_1 hcz14_2 hfz14_0 hfz14_1 hfz14_2); (try clear hcz16_0 hcz16_1 hcz16_2 hfz16_0 hfz16_1 hfz16_2); (try clear hcz18_0 hcz18_1 hcz18_2 hfz18_0 hfz18_1 hfz18_2); (try clear hcz20_0 hcz20_1 hcz20_2 hfz20_0 hfz20_1 hfz20_2); (try clear hcz25_0 hcz25_1 hcz25_2 hfz25_0 hfz25_1 hfz25_2); (try clear hcz28_0 hcz28_1 hcz28_2 hfz28_0 hfz28_1 hfz28_2); (try clear hcz33_0 hcz33_1 hcz33_2 hfz33_0 hfz33_1 hfz33_2); (try clear hcz38_0 hcz38_1 hcz38_2 hfz38_0 hfz38_1 hfz38_2); (try clear hcz41_0 hcz41_1 hcz41_2 hfz41_0 hfz41_1 hfz41_2); (try clear hcz9_0 hcz9_1 hcz9_2 hfz9_0 hfz9_1 hfz9_2)
           obtain ⟨kq, x13_30, rfl, HA, HJ30, BK510, BK513, HB⟩ := hcut
           cases kq with
           | zero => exact absurd HA.out (by simp [spec_DownBound.j2])
           | succ kj30 =>
            have H := HA.out
            clear HA
            simp only [spec_DownBound.j2] at H
            by_cases c42 : x13_30 < 0
            ·rw [if_pos c42] at H
             have c42b0 : decide (x13_30 < 0) = true := decide_eq_true c42
             clear c42
             by_cases c43 : x9_1 < 0
             ·rw [if_pos c43] at H
              have c43b0 : decide (x9_1 < 0) = true := decide_eq_true c43
              clear c43
              have H' := ak_ H
              clear H
              go_wp2
              go_roundg kj30
              case measure => have := HK1.out; have := HJ23.out; have := HJ30.out; omega
              case rel => exact ⟨(0), (wrap64 (x10_1 + 1)), (by first | rfl | (simp; done) | (simp [*]; done) | (exfalso; simp_all; done)), (by first | rfl | (simp; done) | (simp [*]; done) | (exfalso; simp_all; done)), H', ⟨by have := HK1.out; have := HJ23.out; have := HJ30.out; omega⟩, ⟨by (with_reducible repeat (first | refine kn_ ?_ _ | refine kd_ ?_ | refine ka_ ?_ _)); exact BK510.out⟩, ⟨hb_⟩⟩
             ·rw [if_neg c43] at H
              have c43b0 : decide (x9_1 < 0) = false := decide_eq_false c43
              clear c43
              by_cases c44 : a0_1 = 0
              ·rw [if_pos c44] at H
               have c44b0 : (a0_1 == 0) = true := beq_iff_eq.mpr c44
               have c44b1 : (a0_1 != 0) = false := bne_eq_false_iff_eq.mpr c44
               clear c44
               by_cases c45 : 0 < x9_1
               ·rw [if_pos c45] at H
                have c45b0 : decide (0 < x9_1) = true := decide_eq_true c45
                clear c45
                have H' := ak_ H
                clear H
                have hnb46 := NB510_513.out
                have hnc46 := NB513_510.out
                obtain ⟨hcz47_0, hcz47_1, hcz47_2, hfz47_0, hfz47_1, hfz47_2⟩ := bc3_ BK510.out
                go_wp2
                go_roundg kj30
                case measure => have := HK1.out; have := HJ23.out; have := HJ30.out; omega
                case rel => exact ⟨(0), (wrap64 (x10_1 + 1)), (by first | rfl | (simp; done) | (simp [*]; done) | (exfalso; simp_all; done)), (by first | rfl | (simp; done) | (simp [*]; done) | (exfalso; simp_all; done)), H', ⟨by have := HK1.out; have := HJ23.out; have := HJ30.out; omega⟩, ⟨by (with_reducible repeat (first | refine kn_ ?_ _ | refine kd_ ?_ | refine ka_ ?_ _)); exact BK510.out⟩, ⟨hb_⟩⟩
               ·rw [if_neg c45] at H
                have c45b0 : decide (0 < x9_1) = false := decide_eq_false c45
                clear c45
                by_cases c48 : a0_1 = 1
                ·rw [if_pos c48] at H
                 have c48b0 : (a0_1 == 1) = true := beq_iff_eq.mpr c48
                 have c48b1 : (a0_1 != 1) = false := bne_eq_false_iff_eq.mpr c48
                 clear c48
                 by_cases c49 : 0 > x9_1
                 ·rw [if_pos c49] at H
                  have c49b0 : decide (x9_1 < 0) = true := decide_eq_true c49
                  clear c49
                  have H' := ak_ H
                  clear H
                  have hnb50 := NB510_513.out
                  have hnc50 := NB513_510.out
                  obtain ⟨hcz51_0, hcz51_1, hcz51_2, hfz51_0, hfz51_1, hfz51_2⟩ := bc3_ BK510.out
                  go_wp2
                  go_roundg kj30
                  case measure => have := HK1.out; have := HJ23.out; have := HJ30.out; omega
                  case rel => exact ⟨(0), (wrap64 (x10_1 + 1)), (by first | rfl | (simp; done) | (simp [*]; done) | (exfalso; simp_all; done)), (by first | rfl | (simp; done) | (simp [*]; done) | (exfalso; simp_all; done)), H', ⟨by have := HK1.out; have := HJ23.out; have := HJ30.out; omega⟩, ⟨by (with_reducible repeat (first | refine kn_ ?_ _ | refine kd_ ?_ | refine ka_ ?_ _)); exact BK510.out⟩, ⟨hb_⟩⟩
                 ·rw [if_neg c49] at H
                  have c49b0 : decide (x9_1 < 0) = false := decide_eq_false c49
                  clear c49
                  have H' := ak_ H
                  clear H
                  have hnb52 := NB510_513.out
                  have hnc52 := NB513_510.out
                  obtain ⟨hcz53_0, hcz53_1, hcz53_2, hfz53_0, hfz53_1, hfz53_2⟩ := bc3_ BK510.out
                  go_wp2
                  go_roundg kj30
                  case measure => have := HK1.out; have := HJ23.out; have := HJ30.out; omega
                  case rel => exact ⟨(x9_1), (wrap64 (x10_1 + 1)), (by first | rfl | (simp; done) | (simp [*]; done) | (exfalso; simp_all; done)), (by first | rfl | (simp; done) | (simp [*]; done) | (exfalso; simp_all; done)), H', ⟨by have := HK1.out; have := HJ23.out; have := HJ30.out; omega⟩, ⟨by (with_reducible repeat (first | refine kn_ ?_ _ | refine kd_ ?_ | refine ka_ ?_ _)); exact BK510.out⟩, ⟨hb_⟩⟩
                ·rw [if_neg c48] at H
                 have c48b0 : (a0_1 == 1) = false := beq_eq_false_iff_ne.mpr c48
                 have c48b1 : (a0_1 != 1) = true := bne_iff_ne.mpr c48
                 have H' := ak_ H
                 clear H
                 have hnb54 := NB510_513.out
                 have hnc54 := NB513_510.out
                 obtain ⟨hcz55_0, hcz55_1, hcz55_2, hfz55_0, hfz55_1, hfz55_2⟩ := bc3_ BK510.out
                 go_wp2
                 go_roundg kj30
                 case measure => have := HK1.out; have := HJ23.out; have := HJ30.out; omega
                 case rel => exact ⟨(x9_1), (wrap64 (x10_1 + 1)), (by first | rfl | (simp; done) | (simp [*]; done) | (exfalso; simp_all; done)), (by first | rfl | (simp; done) | (simp [*]; done) | (exfalso; simp_all; done)), H', ⟨by have := HK1.out; have := HJ23.out; have := HJ30.out; omega⟩, ⟨by (with_reducible repeat (first | refine kn_ ?_ _ | refine kd_ ?_ | refine ka_ ?_ _)); exact BK510.out⟩, ⟨hb_⟩⟩
              ·rw [if_neg c44] at H
               have c44b0 : (a0_1 == 0) = false := beq_eq_false_iff_ne.mpr c44
               have c44b1 : (a0_1 != 0) = true := bne_iff_ne.mpr c44
               by_cases c56 : a0_1 = 1
               ·rw [if_pos c56] at H
                have c56b0 : (a0_1 == 1) = true := beq_iff_eq.mpr c56
                have c56b1 : (a0_1 != 1) = false := bne_eq_false_iff_eq.mpr c56
                clear c56
                by_cases c57 : 0 > x9_1
                ·rw [if_pos c57] at H
                 have c57b0 : decide (x9_1 < 0) = true := decide_eq_true c57
                 clear c57
                 have H' := ak_ H
                 clear H
                 have hnb58 := NB510_513.out
                 have hnc58 := NB513_510.out
                 obtain ⟨hcz59_0, hcz59_1, hcz59_2, hfz59_0, hfz59_1, hfz59_2⟩ := bc3_ BK510.out
                 go_wp2
                 go_roundg kj30
                 case measure => have := HK1.out; have := HJ23.out; have := HJ30.out; omega
                 case rel => exact ⟨(0), (wrap64 (x10_1 + 1)), (by first | rfl | (simp; done) | (simp [*]; done) | (exfalso; simp_all; done)), (by first | rfl | (simp; done) | (simp [*]; done) | (exfalso; simp_all; done)), H', ⟨by have := HK1.out; have := HJ23.out; have := HJ30.out; omega⟩, ⟨by (with_reducible repeat (first | refine kn_ ?_ _ | refine kd_ ?_ | refine ka_ ?_ _)); exact BK510.out⟩, ⟨hb_⟩⟩
                ·rw [if_neg c57] at H
                 have c57b0 : decide (x9_1 < 0) = false := decide_eq_false c57
                 clear c57
                 have H' := ak_ H
                 clear H
                 have hnb60 := NB510_513.out
                 have hnc60 := NB513_510.out
                 obtain ⟨hcz61_0, hcz61_1, hcz61_2, hfz61_0, hfz61_1, hfz61_2⟩ := bc3_ BK510.out
                 go_wp2
                 go_roundg kj30
                 case measure => have := HK1.out; have := HJ23.out; have := HJ30.out; omega
                 case rel => exact ⟨(x9_1), (wrap64 (x10_1 + 1)), (by first | rfl | (simp; done) | (simp [*]; done) | (exfalso; simp_all; done)), (by first | rfl | (simp; done) | (simp [*]; done) | (exfalso; simp_all; done)), H', ⟨by have := HK1.out; have := HJ23.out; have := HJ30.out; omega⟩, ⟨by (with_reducible repeat (first | refine kn_ ?_ _ | refine kd_ ?_ | refine ka_ ?_ _)); exact BK510.out⟩, ⟨hb_⟩⟩
               ·rw [if_neg c56] at H
                have c56b0 : (a0_1 == 1) = false := beq_eq_false_iff_ne.mpr c56
                have c56b1 : (a0_1 != 1) = true := bne_iff_ne.mpr c56
                have H' := ak_ H
                clear H
                have hnb62 := NB510_513.out
                have hnc62 := NB513_510.out
                obtain ⟨hcz63_0, hcz63_1, hcz63_2, hfz63_0, hfz63_1, hfz63_2⟩ := bc3_ BK510.out
                go_wp2
                go_roundg kj30
                case measure => have := HK1.out; have := HJ23.out; have := HJ30.out; omega
                case rel => exact ⟨(x9_1), (wrap64 (x10_1 + 1)), (by first | rfl | (simp; done) | (simp [*]; done) | (exfalso; simp_all; done)), (by first | rfl | (simp; done) | (simp [*]; done) | (exfalso; simp_all; done)), H', ⟨by have := HK1.out; have := HJ23.out; have := HJ30.out; omega⟩, ⟨by (with_reducible repeat (first | refine kn_ ?_ _ | refine kd_ ?_ | refine ka_ ?_ _)); exact BK510.out⟩, ⟨hb_⟩⟩
            ·rw [if_neg c42] at H
             have c42b0 : decide (x13_30 < 0) = false := decide_eq_false c42
             clear c42
             by_cases c64 : x9_1 < 0
             ·rw [if_pos c64] at H
              have c64b0 : decide (x9_1 < 0) = true := decide_eq_true c64
              clear c64
              have H' := ak_ H
              clear H
              go_wp2
              go_roundg kj30
              case measure => have := HK1.out; have := HJ23.out; have := HJ30.out; omega
              case rel => exact ⟨(x13_30), (wrap64 (x10_1 + 1)), (by first | rfl | (simp; done) | (simp [*]; done) | (exfalso; simp_all; done)), (by first | rfl | (simp; done) | (simp [*]; done) | (exfalso; simp_all; done)), H', ⟨by have := HK1.out; have := HJ23.out; have := HJ30.out; omega⟩, ⟨by (with_reducible repeat (first | refine kn_ ?_ _ | refine kd_ ?_ | refine ka_ ?_ _)); exact BK510.out⟩, ⟨hb_⟩⟩
             ·rw [if_neg c64] at H
              have c64b0 : decide (x9_1 < 0) = false := decide_eq_false c64
              clear c64
              by_cases c65 : a0_1 = 0
              ·rw [if_pos c65] at H
               have c65b0 : (a0_1 == 0) = true := beq_iff_eq.mpr c65
               have c65b1 : (a0_1 != 0) = false := bne_eq_false_iff_eq.mpr c65
               clear c65
               by_cases c66 : x13_30 < x9_1
               ·rw [if_pos c66] at H
                have c66b0 : decide (x13_30 < x9_1) = true := decide_eq_true c66
                clear c66
                have H' := ak_ H
                clear H
                have hnb67 := NB510_513.out
                have hnc67 := NB513_510.out
                obtain ⟨hcz68_0, hcz68_1, hcz68_2, hfz68_0, hfz68_1, hfz68_2⟩ := bc3_ BK510.out
                go_wp2
                go_roundg kj30
                case measure => have := HK1.out; have := HJ23.out; have := HJ30.out; omega
                case rel => exact ⟨(x13_30), (wrap64 (x10_1 + 1)), (by first | rfl | (simp; done) | (simp [*]; done) | (exfalso; simp_all; done)), (by first | rfl | (simp; done) | (simp [*]; done) | (exfalso; simp_all; done)), H', ⟨by have := HK1.out; have := HJ23.out; have := HJ30.out; omega⟩, ⟨by (with_reducible repeat (first | refine kn_ ?_ _ | refine kd_ ?_ | refine ka_ ?_ _)); exact BK510.out⟩, ⟨hb_⟩⟩
               ·rw [if_neg c66] at H
                have c66b0 : decide (x13_30 < x9_1) = false := decide_eq_false c66
                clear c66
                by_cases c69 : a0_1 = 1
                ·rw [if_pos c69] at H
                 have c69b0 : (a0_1 == 1) = true := beq_iff_eq.mpr c69
                 have c69b1 : (a0_1 != 1) = false := bne_eq_false_iff_eq.mpr c69
                 clear c69
                 by_cases c70 : x13_30 > x9_1
                 ·rw [if_pos c70] at H
                  have c70b0 : decide (x9_1 < x13_30) = true := decide_eq_true c70
                  clear c70
                  have H' := ak_ H
                  clear H
                  have hnb71 := NB510_513.out
                  have hnc71 := NB513_510.out
                  obtain ⟨hcz72_0, hcz72_1, hcz72_2, hfz72_0, hfz72_1, hfz72_2⟩ := bc3_ BK510.out
                  go_wp2
                  go_roundg kj30
                  case measure => have := HK1.out; have := HJ23.out; have := HJ30.out; omega
                  case rel => exact ⟨(x13_30), (wrap64 (x10_1 + 1)), (by first | rfl | (simp; done) | (simp [*]; done) | (exfalso; simp_all; done)), (by first | rfl | (simp; done) | (simp [*]; done) | (exfalso; simp_all; done)), H', ⟨by have := HK1.out; have := HJ23.out; have := HJ30.out; omega⟩, ⟨by (with_reducible repeat (first | refine kn_ ?_ _ | refine kd_ ?_ | refine ka_ ?_ _)); exact BK510.out⟩, ⟨hb_⟩⟩
                 ·rw [if_neg c70] at H
                  have c70b0 : decide (x9_1 < x13_30) = false := decide_eq_false c70
                  clear c70
                  have H' := ak_ H
                  clear H
                  have hnb73 := NB510_513.out
                  have hnc73 := NB513_510.out
                  obtain ⟨hcz74_0, hcz74_1, hcz74_2, hfz74_0, hfz74_1, hfz74_2⟩ := bc3_ BK510.out
                  go_wp2
                  go_roundg kj30
                  case measure => have := HK1.out; have := HJ23.out; have := HJ30.out; omega
                  case rel => exact ⟨(x9_1), (wrap64 (x10_1 + 1)), (by first | rfl | (simp; done) | (simp [*]; done) | (exfalso; simp_all; done)), (by first | rfl | (simp; done) | (simp [*]; done) | (exfalso; simp_all; done)), H', ⟨by have := HK1.out; have := HJ23.out; have := HJ30.out; omega⟩, ⟨by (with_reducible repeat (first | refine kn_ ?_ _ | refine kd_ ?_ | refine ka_ ?_ _)); exact BK510.out⟩, ⟨hb_⟩⟩
                ·rw [if_neg c69] at H
                 have c69b0 : (a0_1 == 1) = false := beq_eq_false_iff_ne.mpr c69
                 have c69b1 : (a0_1 != 1) = true := bne_iff_ne.mpr c69
                 have H' := ak_ H
                 clear H
                 have hnb75 := NB510_513.out
                 have hnc75 := NB513_510.out
                 obtain ⟨hcz76_0, hcz76_1, hcz76_2, hfz76_0, hfz76_1, hfz76_2⟩ := bc3_ BK510.out
                 go_wp2
                 go_roundg kj30
                 case measure => have := HK1.out; have := HJ23.out; have := HJ30.out; omega
                 case rel => exact ⟨(x9_1), (wrap64 (x10_1 + 1)), (by first | rfl | (simp; done) | (simp [*]; done) | (exfalso; simp_all; done)), (by first | rfl | (simp; done) | (simp [*]; done) | (exfalso; simp_all; done)), H', ⟨by have := HK1.out; have := HJ23.out; have := HJ30.out; omega⟩, ⟨by (with_reducible repeat (first | refine kn_ ?_ _ | refine kd_ ?_ | refine ka_ ?_ _)); exact BK510.out⟩, ⟨hb_⟩⟩
              ·rw [if_neg c65] at H
               have c65b0 : (a0_1 == 0) = false := beq_eq_false_iff_ne.mpr c65
               have c65b1 : (a0_1 != 0) = true := bne_iff_ne.mpr c65
               by_cases c77 : a0_1 = 1
               ·rw [if_pos c77] at H
                have c77b0 : (a0_1 == 1) = true := beq_iff_eq.mpr c77
                have c77b1 : (a0_1 != 1) = false := bne_eq_false_iff_eq.mpr c77
                clear c77
                by_cases c78 : x13_30 > x9_1
                ·rw [if_pos c78] at H
                 have c78b0 : decide (x9_1 < x13_30) = true := decide_eq_true c78
                 clear c78
                 have H' := ak_ H
                 clear H
                 have hnb79 := NB510_513.out
                 have hnc79 := NB513_510.out
                 obtain ⟨hcz80_0, hcz80_1, hcz80_2, hfz80_0, hfz80_1, hfz80_2⟩ := bc3_ BK510.out
                 go_wp2
                 go_roundg kj30
                 case measure => have := HK1.out; have := HJ23.out; have := HJ30.out; omega
                 case rel => exact ⟨(x13_30), (wrap64 (x10_1 + 1)), (by first | rfl | (simp; done) | (simp [*]; done) | (exfalso; simp_all; done)), (by first | rfl | (simp; done) | (simp [*]; done) | (exfalso; simp_all; done)), H', ⟨by have := HK1.out; have := HJ23.out; have := HJ30.out; omega⟩, ⟨by (with_reducible repeat (first | refine kn_ ?_ _ | refine kd_ ?_ | refine ka_ ?_ _)); exact BK510.out⟩, ⟨hb_⟩⟩
                ·rw [if_neg c78] at H
                 have c78b0 : decide (x9_1 < x13_30) = false := decide_eq_false c78
                 clear c78
                 have H' := ak_ H
                 clear H
                 have hnb81 := NB510_513.out
                 have hnc81 := NB513_510.out
                 obtain ⟨hcz82_0, hcz82_1, hcz82_2, hfz82_0, hfz82_1, hfz82_2⟩ := bc3_ BK510.out
                 go_wp2
                 go_roundg kj30
                 case measure => have := HK1.out; have := HJ23.out; have := HJ30.out; omega
                 case rel => exact ⟨(x9_1), (wrap64 (x10_1 + 1)), (by first | rfl | (simp; done) | (simp [*]; done) | (exfalso; simp_all; done)), (by first | rfl | (simp; done) | (simp [*]; done) | (exfalso; simp_all; done)), H', ⟨by have := HK1.out; have := HJ23.out; have := HJ30.out; omega⟩, ⟨by (with_reducible repeat (first | refine kn_ ?_ _ | refine kd_ ?_ | refine ka_ ?_ _)); exact BK510.out⟩, ⟨hb_⟩⟩
               ·rw [if_neg c77] at H
                have c77b0 : (a0_1 == 1) = false := beq_eq_false_iff_ne.mpr c77
                have c77b1 : (a0_1 != 1) = true := bne_iff_ne.mpr c77
                have H' := ak_ H
                clear H
                have hnb83 := NB510_513.out
                have hnc83 := NB513_510.out
                obtain ⟨hcz84_0, hcz84_1, hcz84_2, hfz84_0, hfz84_1, hfz84_2⟩ := bc3_ BK510.out
                go_wp2
                go_roundg kj30
                case measure => have := HK1.out; have := HJ23.out; have := HJ30.out; omega
                case rel => exact ⟨(x9_1), (wrap64 (x10_1 + 1)), (by first | rfl | (simp; done) | (simp [*]; done) | (exfalso; simp_all; done)), (by first | rfl | (simp; done) | (simp [*]; done) | (exfalso; simp_all; done)), H', ⟨by have := HK1.out; have := HJ23.out; have := HJ30.out; omega⟩, ⟨by (with_reducible repeat (first | refine kn_ ?_ _ | refine kd_ ?_ | refine ka_ ?_ _)); exact BK510.out⟩, ⟨hb_⟩⟩
       ·rw [if_neg c22] at H
        exact absurd H (by simp)
      ·rw [if_neg c21] at H
       have c21b0 : decide (x10_1 < (l0_0.length : Int)) = false := decide_eq_false c21
       clear c21
       by_cases c85 : x9_1 > a3
       ·rw [if_pos c85] at H
        have c85b0 : decide (a3 < x9_1) = true := decide_eq_true c85
        clear c85
        obtain rfl := Option.some.inj H
        obtain ⟨hcz86_0, hcz86_1, hcz86_2, hfz86_0, hfz86_1, hfz86_2⟩ := bc3_ BK510.out
        go_wp2
        go_ret
        exact ⟨ew_, hb_⟩
       ·rw [if_neg c85] at H
        have c85b0 : decide (a3 < x9_1) = false := decide_eq_false c85
        clear c85
        obtain rfl := Option.some.inj H
        obtain ⟨hcz87_0, hcz87_1, hcz87_2, hfz87_0, hfz87_1, hfz87_2⟩ := bc3_ BK510.out
        go_wp2
        go_ret
        exact ⟨ew_, hb_⟩
 ·replace c6 := Bool.eq_false_iff.mpr c6
  subst c6
  rw [if_neg (show ¬ (false = true) by decide)] at H
  obtain rfl := Option.some.inj H
  go_enter Try.func27, Try.ntmps27
  go_wp2_with (first | ((with_reducible refine gate_dst (N := 4) rfl ?_); refine be_ (N := 4) (cs := #[.slice A0_0 l0_0.length c0_0, .int .i64 a0_1, .int .i64 a0_2]) (t := 33) ?_; intro gb510 hg w88 hbox hb; have BK510 := ak_ hbox; have GW510 := ak_ ((gs_ hg : w.heap.size ≤ gb510)); have GE510 := ak_ ((gs_ hg : w.heap.size ≤ gb510)); replace HB := ak_ (below_step hb_ hb); clear hb hbox hg; obtain ⟨hcz89_0, hcz89_1, hcz89_2, hfz89_0, hfz89_1, hfz89_2⟩ := bc3_ BK510.out) | ((with_reducible refine gate_callee (f := 74) rfl ?_); refine goesL_ (some 19) rfl rfl Try.func74 (by kernel_rfl) rfl #[.agg #[.slice A0_0 l0_0.length c0_0, .int .i64 a0_1, .int .i64 a0_2], .slice A1 l1.length c1, .int .i64 a2, .int .i64 a3] rfl (ma4_ rfl rfl rfl rfl) ?_; (with_reducible refine (spec_l06Good.calls k _ _ l0_0 a0_1 a0_2 _ _ l1 a2 a3 false _ ?side1 ?side2 ?side3 ?side4 A5.out).mono ?_); (case side1 => exact kc_ HR0_0); (case side2 => exact HC0_0.out); (case side3 => exact kc_ HR1); (case side4 => exact HC1.out); rintro e w90 ⟨rfl, hb⟩; refine ⟨_, rfl, ?_⟩; replace BK510 := ak_ (blk_below (bk_ BK510) hb); replace HB := ak_ (below_step hb_ hb); (try clear hb)))
  go_ret
  exact ⟨ew_, hb_⟩

end Go.Proofs.Ytfjjlipfjddaiaa.Bo
