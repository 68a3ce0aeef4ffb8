-- PRINTED by print.py (a twelfth state) out of the translation. Not trusted: Lean checks it.
import Derived.Test.YtfjjlipfjddaiaaU0
import Derived.Test.YtfjjlipfjddaiaaU40
namespace Go.Proofs.Ytfjjlipfjddaiaa.U
open Go.RowKit Go.Proofs.YtfjjlipfjddaiaaW.PrintWords Go.Proofs.YtfjjlipfjddaiaaW.PrintLast Go.Proofs.YtfjjlipfjddaiaaW.PrintMore
attribute [local go_sem] max2_int min2_int max_two min_two max_three min_three max_four min_four   -- for this text's walks alone
set_option linter.unusedVariables false
set_option linter.unusedSimpArgs false

/-! ### spec_UpBound: function 26 -/
mutual
def spec_UpBound.l0 : Nat → List (S103) → Int → Int → Int → Int → List (S96) → Int → Int → Option (Int)
  | 0, _, _, _, _, _, _, _, _ => none
  | k + 1, x1, x2, x3, x9, x10, x556000, x556001, x556002 => if x10 < (x556000.length : Int) then (if 0 ≤ x10 then ((spec_l06Base.f k ((rd_T96 x556000 x10).f0) ((rd_T96 x556000 x10).f1) ((rd_T96 x556000 x10).f2) x1 x2 x3).bind fun t559 => (if ((rd_T96 x556000 x10).f0) = 1 then ((spec_CeilDiv.f (wrap64 (t559 * (wrap64 (100 + ((rd_T96 x556000 x10).f1))))) 100).bind fun t560 => (spec_UpBound.j1 k x1 x2 x3 x9 x10 t560 x556000 x556001 x556002)) else (spec_UpBound.j1 k x1 x2 x3 x9 x10 (wrap64 (t559 + ((rd_T96 x556000 x10).f1))) x556000 x556001 x556002))) else (none)) else (if x9 < x3 then (some x3) else (some x9))
def spec_UpBound.j1 : Nat → List (S103) → Int → Int → Int → Int → Int → List (S96) → Int → Int → Option (Int)
  | 0, _, _, _, _, _, _, _, _, _ => none
  | k + 1, x1, x2, x3, x9, x10, x13, x556000, x556001, x556002 => if x13 > 1000 then (if x9 < 0 then (spec_UpBound.l0 k x1 x2 x3 1000 (wrap64 (x10 + 1)) x556000 x556001 x556002) else (if x556001 = 0 then (if 1000 > x9 then (spec_UpBound.l0 k x1 x2 x3 1000 (wrap64 (x10 + 1)) x556000 x556001 x556002) else (if x556001 = 1 then (if 1000 < x9 then (spec_UpBound.l0 k x1 x2 x3 1000 (wrap64 (x10 + 1)) x556000 x556001 x556002) else (spec_UpBound.l0 k x1 x2 x3 x9 (wrap64 (x10 + 1)) x556000 x556001 x556002)) else (spec_UpBound.l0 k x1 x2 x3 x9 (wrap64 (x10 + 1)) x556000 x556001 x556002))) else (if x556001 = 1 then (if 1000 < x9 then (spec_UpBound.l0 k x1 x2 x3 1000 (wrap64 (x10 + 1)) x556000 x556001 x556002) else (spec_UpBound.l0 k x1 x2 x3 x9 (wrap64 (x10 + 1)) x556000 x556001 x556002)) else (spec_UpBound.l0 k x1 x2 x3 x9 (wrap64 (x10 + 1)) x556000 x556001 x556002)))) else (if x9 < 0 then (spec_UpBound.l0 k x1 x2 x3 x13 (wrap64 (x10 + 1)) x556000 x556001 x556002) else (if x556001 = 0 then (if x13 > x9 then (spec_UpBound.l0 k x1 x2 x3 x13 (wrap64 (x10 + 1)) x556000 x556001 x556002) else (if x556001 = 1 then (if x13 < x9 then (spec_UpBound.l0 k x1 x2 x3 x13 (wrap64 (x10 + 1)) x556000 x556001 x556002) else (spec_UpBound.l0 k x1 x2 x3 x9 (wrap64 (x10 + 1)) x556000 x556001 x556002)) else (spec_UpBound.l0 k x1 x2 x3 x9 (wrap64 (x10 + 1)) x556000 x556001 x556002))) else (if x556001 = 1 then (if x13 < x9 then (spec_UpBound.l0 k x1 x2 x3 x13 (wrap64 (x10 + 1)) x556000 x556001 x556002) else (spec_UpBound.l0 k x1 x2 x3 x9 (wrap64 (x10 + 1)) x556000 x556001 x556002)) else (spec_UpBound.l0 k x1 x2 x3 x9 (wrap64 (x10 + 1)) x556000 x556001 x556002))))
end
def spec_UpBound.f (k : Nat) (l0_0 : List (S96)) (a0_1 : Int) (a0_2 : Int) (l1 : List (S103)) (a2 : Int) (a3 : Int) : Option (Int) := (spec_l06Good.f k l0_0 a0_1 a0_2 l1 a2 a3).bind fun t556 => (if t556 = true then (if a0_1 = 2 then (some a3) else (if (l0_0.length : Int) = 0 then (some 1000) else (spec_UpBound.l0 k l1 a2 a3 (-1) 0 l0_0 a0_1 a0_2))) else (some (-1)))
theorem spec_UpBound.mono_l : ∀ k, (∀ y0 y1 y2 y3 y4 y5 y6 y7, LeO (spec_UpBound.l0 k y0 y1 y2 y3 y4 y5 y6 y7) (spec_UpBound.l0 (k + 1) y0 y1 y2 y3 y4 y5 y6 y7)) ∧ (∀ y0 y1 y2 y3 y4 y5 y6 y7 y8, LeO (spec_UpBound.j1 k y0 y1 y2 y3 y4 y5 y6 y7 y8) (spec_UpBound.j1 (k + 1) y0 y1 y2 y3 y4 y5 y6 y7 y8))
  | 0 => ⟨fun _ _ _ _ _ _ _ _ r h => by simp [spec_UpBound.l0] at h, fun _ _ _ _ _ _ _ _ _ r h => by simp [spec_UpBound.j1] at h⟩
  | k + 1 => by
    obtain ⟨ih0, ih1⟩ := spec_UpBound.mono_l k
    refine ⟨?_, ?_⟩
    · intro y0 y1 y2 y3 y4 y5 y6 y7
      unfold spec_UpBound.l0
      repeat' with_reducible first | exact ih0 _ _ _ _ _ _ _ _ | exact ih1 _ _ _ _ _ _ _ _ _ | exact spec_l06Base.mono _ _ _ _ _ _ _ | exact spec_l06Good.mono _ _ _ _ _ _ _ | exact LeO.refl _ | exact LeO.none _ | refine LeO.ite ?_ ?_ | refine LeO.bind ?_ (fun _ => ?_)
    · intro y0 y1 y2 y3 y4 y5 y6 y7 y8
      unfold spec_UpBound.j1
      repeat' with_reducible first | exact ih0 _ _ _ _ _ _ _ _ | exact ih1 _ _ _ _ _ _ _ _ _ | exact spec_l06Base.mono _ _ _ _ _ _ _ | exact spec_l06Good.mono _ _ _ _ _ _ _ | exact LeO.refl _ | exact LeO.none _ | refine LeO.ite ?_ ?_ | refine LeO.bind ?_ (fun _ => ?_)
theorem spec_UpBound.mono : ∀ a0 a1 a2 a3 a4 a5 k, LeO (spec_UpBound.f k a0 a1 a2 a3 a4 a5) (spec_UpBound.f (k + 1) a0 a1 a2 a3 a4 a5) := by
  intro a0 a1 a2 a3 a4 a5 k
  obtain ⟨ih0, ih1⟩ := spec_UpBound.mono_l k
  unfold spec_UpBound.f
  repeat' with_reducible first | exact ih0 _ _ _ _ _ _ _ _ | exact ih1 _ _ _ _ _ _ _ _ _ | exact spec_l06Base.mono _ _ _ _ _ _ _ | exact spec_l06Good.mono _ _ _ _ _ _ _ | exact LeO.refl _ | exact LeO.none _ | refine LeO.ite ?_ ?_ | refine LeO.bind ?_ (fun _ => ?_)
set_option maxHeartbeats 8000000 in
set_option maxRecDepth 100000 in
theorem spec_UpBound.calls (k : Nat) (A0_0 : Option Addr) (c0_0 : Nat) (l0_0 : List (S96)) (a0_1 : Int) (a0_2 : Int) (A1 : Option Addr) (c1 : Nat) (l1 : List (S103)) (a2 : Int) (a3 : Int) (r : Int) (w : World) (hr0_0 : Kd.C k96 w A0_0 l0_0.length l0_0) (hc0_0 : l0_0.length ≤ c0_0) (hr1 : Kd.C k103 w A1 l1.length l1) (hc1 : l1.length ≤ c1) (h : spec_UpBound.f k l0_0 a0_1 a0_2 l1 a2 a3 = some r) :
  Calls Try.prog 26 #[.agg #[.slice A0_0 l0_0.length c0_0, .int .i64 a0_1, .int .i64 a0_2], .slice A1 l1.length c1, .int .i64 a2, .int .i64 a3] w fun e w' => e = .returned (.int .i64 r) ∧ Below w.heap.size w w' := by
 have hu33 := Try.underlying33
 have hu96 := Try.underlying96
 have HR0_0 := Aside0.mk hr0_0
 have HC0_0 := Aside0.mk hc0_0
 clear hr0_0 hc0_0
 have HR1 := Aside0.mk hr1
 have HC1 := Aside0.mk hc1
 clear hr1 hc1
 have HB := Aside0.mk (Below.refl w.heap.size w)
 have H : ((spec_l06Good.f k l0_0 a0_1 a0_2 l1 a2 a3).bind fun t556 => (if t556 = true then (if a0_1 = 2 then (some a3) else (if (l0_0.length : Int) = 0 then (some 1000) else (spec_UpBound.l0 k l1 a2 a3 (-1) 0 l0_0 a0_1 a0_2))) else (some (-1)))) = some r := h
 clear h
 replace H := Option.bind_eq_some_iff.mp H
 obtain ⟨t556, A50, H⟩ := H
 replace H : (if t556 = true then (if a0_1 = 2 then (some a3) else (if (l0_0.length : Int) = 0 then (some 1000) else (spec_UpBound.l0 k l1 a2 a3 (-1) 0 l0_0 a0_1 a0_2))) else (some (-1))) = some r := H
 have A5 := Aside0.mk A50
 clear A50
 by_cases c6 : t556 = true
 ·subst c6
  rw [if_pos rfl] at H
  by_cases c7 : a0_1 = 2
  ·rw [if_pos c7] at H
   have c7b0 : (a0_1 == 2) = true := beq_iff_eq.mpr c7
   have c7b1 : (a0_1 != 2) = false := bne_eq_false_iff_eq.mpr c7
   clear c7
   obtain rfl := Option.some.inj H
   go_enter Try.func26, Try.ntmps26
   go_wp2_with (first | ((with_reducible refine gate_dst (N := 4) rfl ?_); refine box_event ?hg (N := 4) ?hd (cs := #[.slice A0_0 l0_0.length c0_0, .int .i64 a0_1, .int .i64 a0_2]) (t := 33) ?hr ?_; (case hd => rfl); (case hg => rfl); (case hr => first | (go_simp; done) | (go_simp; rfl)); intro gb555 hg w8 hbox hb; have n0_ := Aside0.mk (below_step (by repeat (first | (with_reducible first | exact HB.out | apply ba_ | apply bn_ | apply bd_) | exact HB.out)) hb); have n1_ := Aside0.mk (hbox); have n2_ := Aside0.mk ((by rw [hg]; exact (below_size (by repeat (first | (with_reducible first | exact HB.out | apply ba_ | apply bn_ | apply bd_) | exact HB.out))) : w.heap.size ≤ gb555)); have n3_ := Aside0.mk ((by rw [hg]; exact (below_size (by repeat (first | (with_reducible first | exact HB.out | apply ba_ | apply bn_ | apply bd_) | exact HB.out))) : w.heap.size ≤ gb555)); clear HB; have HB := n0_; have BK555 := n1_; have GW555 := n2_; have GE555 := n3_; clear n0_ n1_ n2_ n3_; clear hb hbox hg; have hcz9_0 : w8.cell? ⟨gb555, 0, none⟩ = some (.slice A0_0 l0_0.length c0_0) := (blk_cell BK555.out 0).trans rfl; have hcz9_1 : w8.cell? ⟨gb555, 1, none⟩ = some (.int .i64 a0_1) := (blk_cell BK555.out 1).trans rfl; have hcz9_2 : w8.cell? ⟨gb555, 2, none⟩ = some (.int .i64 a0_2) := (blk_cell BK555.out 2).trans rfl; have hfz9_0 := blk_frozen BK555.out 0; have hfz9_1 := blk_frozen BK555.out 1; have hfz9_2 := blk_frozen BK555.out 2) | ((with_reducible refine gate_callee (f := 74) rfl ?_); refine goesL_ (some 18) rfl rfl Try.func74 (by kernel_rfl) rfl #[.agg #[.slice A0_0 l0_0.length c0_0, .int .i64 a0_1, .int .i64 a0_2], .slice A1 l1.length c1, .int .i64 a2, .int .i64 a3] rfl (ma4_ rfl rfl rfl rfl) ?_; (with_reducible refine (spec_l06Good.calls k _ _ l0_0 a0_1 a0_2 _ _ l1 a2 a3 true _ ?side1 ?side2 ?side3 ?side4 A5.out).mono ?_); (case side1 => repeat (first | exact (Kd.C_below HR0_0.out HB.out) | with_reducible first | apply ca_ | apply cn_ | apply cd_)); (case side2 => exact HC0_0.out); (case side3 => repeat (first | exact (Kd.C_below HR1.out HB.out) | with_reducible first | apply ca_ | apply cn_ | apply cd_)); (case side4 => exact HC1.out); rintro e w10 ⟨rfl, hb⟩; refine ⟨_, rfl, ?_⟩; have n0_ := Aside0.mk (blk_below (g := gb555) (o := .cells #[.slice A0_0 l0_0.length c0_0, .int .i64 a0_1, .int .i64 a0_2] 33 (0, 0)) (by (with_reducible repeat (first | refine blk_drewN ?_ _ | refine blk_drew ?_ | refine blk_alloc ?_ _)); exact BK555.out) hb); have n1_ := Aside0.mk (below_step (by repeat (first | (with_reducible first | exact HB.out | apply below_alloc | apply pw_below_drewN | apply below_drew1 | refine below_set ?_ GE555.out) | exact HB.out)) hb); clear BK555; clear HB; have BK555 := n0_; have HB := n1_; clear n0_ n1_; (try clear hb); have hcz11_0 : w10.cell? ⟨gb555, 0, none⟩ = some (.slice A0_0 l0_0.length c0_0) := (blk_cell BK555.out 0).trans rfl; have hcz11_1 : w10.cell? ⟨gb555, 1, none⟩ = some (.int .i64 a0_1) := (blk_cell BK555.out 1).trans rfl; have hcz11_2 : w10.cell? ⟨gb555, 2, none⟩ = some (.int .i64 a0_2) := (blk_cell BK555.out 2).trans rfl; have hfz11_0 := blk_frozen BK555.out 0; have hfz11_1 := blk_frozen BK555.out 1; have hfz11_2 := blk_frozen BK555.out 2))
   go_ret
   exact ⟨by first | rfl | (simp [errW_none, errW_some] <;> rfl) | (simp [*, errW_none, errW_some] <;> rfl), by repeat (first | (with_reducible first | exact HB.out | apply below_alloc | apply pw_below_drewN | apply below_drew1 | refine below_set ?_ GE555.out) | exact HB.out)⟩
  ·rw [if_neg c7] at H
   have c7b0 : (a0_1 == 2) = false := beq_eq_false_iff_ne.mpr c7
   have c7b1 : (a0_1 != 2) = true := bne_iff_ne.mpr c7
   by_cases c12 : (l0_0.length : Int) = 0
   ·rw [if_pos c12] at H
    have c12b0 : ((l0_0.length : Int) == 0) = true := beq_iff_eq.mpr c12
    have c12b1 : ((l0_0.length : Int) != 0) = false := bne_eq_false_iff_eq.mpr c12
    clear c12
    obtain rfl := Option.some.inj H
    go_enter Try.func26, Try.ntmps26
    go_wp2_with (first | ((with_reducible refine gate_dst (N := 4) rfl ?_); refine box_event ?hg (N := 4) ?hd (cs := #[.slice A0_0 l0_0.length c0_0, .int .i64 a0_1, .int .i64 a0_2]) (t := 33) ?hr ?_; (case hd => rfl); (case hg => rfl); (case hr => first | (go_simp; done) | (go_simp; rfl)); intro gb555 hg w13 hbox hb; have n0_ := Aside0.mk (below_step (by repeat (first | (with_reducible first | exact HB.out | apply ba_ | apply bn_ | apply bd_) | exact HB.out)) hb); have n1_ := Aside0.mk (hbox); have n2_ := Aside0.mk ((by rw [hg]; exact (below_size (by repeat (first | (with_reducible first | exact HB.out | apply ba_ | apply bn_ | apply bd_) | exact HB.out))) : w.heap.size ≤ gb555)); have n3_ := Aside0.mk ((by rw [hg]; exact (below_size (by repeat (first | (with_reducible first | exact HB.out | apply ba_ | apply bn_ | apply bd_) | exact HB.out))) : w.heap.size ≤ gb555)); clear HB; have HB := n0_; have BK555 := n1_; have GW555 := n2_; have GE555 := n3_; clear n0_ n1_ n2_ n3_; clear hb hbox hg; have hcz14_0 : w13.cell? ⟨gb555, 0, none⟩ = some (.slice A0_0 l0_0.length c0_0) := (blk_cell BK555.out 0).trans rfl; have hcz14_1 : w13.cell? ⟨gb555, 1, none⟩ = some (.int .i64 a0_1) := (blk_cell BK555.out 1).trans rfl; have hcz14_2 : w13.cell? ⟨gb555, 2, none⟩ = some (.int .i64 a0_2) := (blk_cell BK555.out 2).trans rfl; have hfz14_0 := blk_frozen BK555.out 0; have hfz14_1 := blk_frozen BK555.out 1; have hfz14_2 := blk_frozen BK555.out 2) | ((with_reducible refine gate_callee (f := 74) rfl ?_); refine goesL_ (some 18) rfl rfl Try.func74 (by kernel_rfl) rfl #[.agg #[.slice A0_0 l0_0.length c0_0, .int .i64 a0_1, .int .i64 a0_2], .slice A1 l1.length c1, .int .i64 a2, .int .i64 a3] rfl (ma4_ rfl rfl rfl rfl) ?_; (with_reducible refine (spec_l06Good.calls k _ _ l0_0 a0_1 a0_2 _ _ l1 a2 a3 true _ ?side1 ?side2 ?side3 ?side4 A5.out).mono ?_); (case side1 => repeat (first | exact (Kd.C_below HR0_0.out HB.out) | with_reducible first | apply ca_ | apply cn_ | apply cd_)); (case side2 => exact HC0_0.out); (case side3 => repeat (first | exact (Kd.C_below HR1.out HB.out) | with_reducible first | apply ca_ | apply cn_ | apply cd_)); (case side4 => exact HC1.out); rintro e w15 ⟨rfl, hb⟩; refine ⟨_, rfl, ?_⟩; have n0_ := Aside0.mk (blk_below (g := gb555) (o := .cells #[.slice A0_0 l0_0.length c0_0, .int .i64 a0_1, .int .i64 a0_2] 33 (0, 0)) (by (with_reducible repeat (first | refine blk_drewN ?_ _ | refine blk_drew ?_ | refine blk_alloc ?_ _)); exact BK555.out) hb); have n1_ := Aside0.mk (below_step (by repeat (first | (with_reducible first | exact HB.out | apply below_alloc | apply pw_below_drewN | apply below_drew1 | refine below_set ?_ GE555.out) | exact HB.out)) hb); clear BK555; clear HB; have BK555 := n0_; have HB := n1_; clear n0_ n1_; (try clear hb); have hcz16_0 : w15.cell? ⟨gb555, 0, none⟩ = some (.slice A0_0 l0_0.length c0_0) := (blk_cell BK555.out 0).trans rfl; have hcz16_1 : w15.cell? ⟨gb555, 1, none⟩ = some (.int .i64 a0_1) := (blk_cell BK555.out 1).trans rfl; have hcz16_2 : w15.cell? ⟨gb555, 2, none⟩ = some (.int .i64 a0_2) := (blk_cell BK555.out 2).trans rfl; have hfz16_0 := blk_frozen BK555.out 0; have hfz16_1 := blk_frozen BK555.out 1; have hfz16_2 := blk_frozen BK555.out 2))
    go_ret
    exact ⟨by first | rfl | (simp [errW_none, errW_some] <;> rfl) | (simp [*, errW_none, errW_some] <;> rfl), by repeat (first | (with_reducible first | exact HB.out | apply below_alloc | apply pw_below_drewN | apply below_drew1 | refine below_set ?_ GE555.out) | exact HB.out)⟩
   ·rw [if_neg c12] at H
    have c12b0 : ((l0_0.length : Int) == 0) = false := beq_eq_false_iff_ne.mpr c12
    have c12b1 : ((l0_0.length : Int) != 0) = true := bne_iff_ne.mpr c12
    have c12b2 : ¬ (l0_0 = []) := fun h_ => c12 (by rw [h_]; rfl)
    have H' := Aside0.mk H
    clear H
    go_enter Try.func26, Try.ntmps26
    go_wp2_with (first | ((with_reducible refine gate_dst (N := 4) rfl ?_); refine box_event ?hg (N := 4) ?hd (cs := #[.slice A0_0 l0_0.length c0_0, .int .i64 a0_1, .int .i64 a0_2]) (t := 33) ?hr ?_; (case hd => rfl); (case hg => rfl); (case hr => first | (go_simp; done) | (go_simp; rfl)); intro gb555 hg w17 hbox hb; have n0_ := Aside0.mk (below_step (by repeat (first | (with_reducible first | exact HB.out | apply ba_ | apply bn_ | apply bd_) | exact HB.out)) hb); have n1_ := Aside0.mk (hbox); have n2_ := Aside0.mk ((by rw [hg]; exact (below_size (by repeat (first | (with_reducible first | exact HB.out | apply ba_ | apply bn_ | apply bd_) | exact HB.out))) : w.heap.size ≤ gb555)); have n3_ := Aside0.mk ((by rw [hg]; exact (below_size (by repeat (first | (with_reducible first | exact HB.out | apply ba_ | apply bn_ | apply bd_) | exact HB.out))) : w.heap.size ≤ gb555)); clear HB; have HB := n0_; have BK555 := n1_; have GW555 := n2_; have GE555 := n3_; clear n0_ n1_ n2_ n3_; clear hb hbox hg; have hcz18_0 : w17.cell? ⟨gb555, 0, none⟩ = some (.slice A0_0 l0_0.length c0_0) := (blk_cell BK555.out 0).trans rfl; have hcz18_1 : w17.cell? ⟨gb555, 1, none⟩ = some (.int .i64 a0_1) := (blk_cell BK555.out 1).trans rfl; have hcz18_2 : w17.cell? ⟨gb555, 2, none⟩ = some (.int .i64 a0_2) := (blk_cell BK555.out 2).trans rfl; have hfz18_0 := blk_frozen BK555.out 0; have hfz18_1 := blk_frozen BK555.out 1; have hfz18_2 := blk_frozen BK555.out 2) | ((with_reducible refine gate_callee (f := 74) rfl ?_); refine goesL_ (some 18) rfl rfl Try.func74 (by kernel_rfl) rfl #[.agg #[.slice A0_0 l0_0.length c0_0, .int .i64 a0_1, .int .i64 a0_2], .slice A1 l1.length c1, .int .i64 a2, .int .i64 a3] rfl (ma4_ rfl rfl rfl rfl) ?_; (with_reducible refine (spec_l06Good.calls k _ _ l0_0 a0_1 a0_2 _ _ l1 a2 a3 true _ ?side1 ?side2 ?side3 ?side4 A5.out).mono ?_); (case side1 => repeat (first | exact (Kd.C_below HR0_0.out HB.out) | with_reducible first | apply ca_ | apply cn_ | apply cd_)); (case side2 => exact HC0_0.out); (case side3 => repeat (first | exact (Kd.C_below HR1.out HB.out) | with_reducible first | apply ca_ | apply cn_ | apply cd_)); (case side4 => exact HC1.out); rintro e w19 ⟨rfl, hb⟩; refine ⟨_, rfl, ?_⟩; have n0_ := Aside0.mk (blk_below (g := gb555) (o := .cells #[.slice A0_0 l0_0.length c0_0, .int .i64 a0_1, .int .i64 a0_2] 33 (0, 0)) (by (with_reducible repeat (first | refine blk_drewN ?_ _ | refine blk_drew ?_ | refine blk_alloc ?_ _)); exact BK555.out) hb); have n1_ := Aside0.mk (below_step (by repeat (first | (with_reducible first | exact HB.out | apply below_alloc | apply pw_below_drewN | apply below_drew1 | refine below_set ?_ GE555.out) | exact HB.out)) hb); clear BK555; clear HB; have BK555 := n0_; have HB := n1_; clear n0_ n1_; (try clear hb); have hcz20_0 : w19.cell? ⟨gb555, 0, none⟩ = some (.slice A0_0 l0_0.length c0_0) := (blk_cell BK555.out 0).trans rfl; have hcz20_1 : w19.cell? ⟨gb555, 1, none⟩ = some (.int .i64 a0_1) := (blk_cell BK555.out 1).trans rfl; have hcz20_2 : w19.cell? ⟨gb555, 2, none⟩ = some (.int .i64 a0_2) := (blk_cell BK555.out 2).trans rfl; have hfz20_0 := blk_frozen BK555.out 0; have hfz20_1 := blk_frozen BK555.out 1; have hfz20_2 := blk_frozen BK555.out 2))
    go_loopg [9, 10] k (fun kq v9 v10 w' => ∃ (x9_1 : Int) (x10_1 : Int), v9 = .int .i64 x9_1 ∧ v10 = .int .i64 x10_1 ∧ Aside0 (spec_UpBound.l0 kq l1 a2 a3 x9_1 x10_1 l0_0 a0_1 a0_2 = some r) ∧ Aside0 (kq ≤ k) ∧ Aside0 (w'.heap[gb555]? = some (.cells #[(.slice A0_0 l0_0.length c0_0), .int .i64 a0_1, .int .i64 a0_2] 33 (0, 0))) ∧ Aside0 (Below w.heap.size w w'))
    case atStart => exact ⟨((-1)), (0), (by first | rfl | (simp; done) | (simp [*]; done)), (by first | rfl | (simp; done) | (simp [*]; done)), H', ⟨Nat.le_refl _⟩, ⟨by (with_reducible repeat (first | refine blk_drewN ?_ _ | refine blk_drew ?_ | refine blk_alloc ?_ _)); exact BK555.out⟩, ⟨by repeat (first | (with_reducible first | exact HB.out | apply below_alloc | apply pw_below_drewN | apply below_drew1 | refine below_set ?_ GE555.out) | exact HB.out)⟩⟩
    case round =>
     clear H'
     try clear c1
     try clear c2
     try clear p2
     try clear c6
     try clear c7
     try clear c7b0
     try clear c7b1
     try clear c12
     try clear c12b0
     try clear c12b1
     try clear c12b2
     try clear hcz11_0
     try clear hcz11_1
     try clear hcz11_2
     try clear hcz14_0
     try clear hcz14_1
     try clear hcz14_2
     try clear hcz16_0
     try clear hcz16_1
     try clear hcz16_2
     try clear hcz18_0
     try clear hcz18_1
     try clear hcz18_2
     try clear hcz20_0
     try clear hcz20_1
     try clear hcz20_2
     try clear hcz9_0
     try clear hcz9_1
     try clear hcz9_2
     try clear hfz11_0
     try clear hfz11_1
     try clear hfz11_2
     try clear hfz14_0
     try clear hfz14_1
     try clear hfz14_2
     try clear hfz16_0
     try clear hfz16_1
     try clear hfz16_2
     try clear hfz18_0
     try clear hfz18_1
     try clear hfz18_2
     try clear hfz20_0
     try clear hfz20_1
     try clear hfz20_2
     try clear hfz9_0
     try clear hfz9_1
     try clear hfz9_2
     obtain ⟨x9_1, x10_1, rfl, rfl, HA, HK1, BK555, HB⟩ := hrel
     cases gk with
     | zero => exact absurd HA.out (by simp [spec_UpBound.l0])
     | succ k1 =>
      have H := HA.out
      clear HA
      simp only [spec_UpBound.l0] at H
      by_cases c21 : x10_1 < (l0_0.length : Int)
      ·rw [if_pos c21] at H
       have c21b0 : decide (x10_1 < (l0_0.length : Int)) = true := decide_eq_true c21
       clear c21
       by_cases c22 : 0 ≤ x10_1
       ·rw [if_pos c22] at H
        have c22b0 : decide (0 ≤ x10_1) = true := decide_eq_true c22
        clear c22
        replace H := Option.bind_eq_some_iff.mp H
        obtain ⟨t559, A230, H⟩ := H
        replace H : (if ((rd_T96 l0_0 x10_1).f0) = 1 then ((spec_CeilDiv.f (wrap64 (t559 * (wrap64 (100 + ((rd_T96 l0_0 x10_1).f1))))) 100).bind fun t560 => (spec_UpBound.j1 k1 l1 a2 a3 x9_1 x10_1 t560 l0_0 a0_1 a0_2)) else (spec_UpBound.j1 k1 l1 a2 a3 x9_1 x10_1 (wrap64 (t559 + ((rd_T96 l0_0 x10_1).f1))) l0_0 a0_1 a0_2)) = some r := H
        have A23 := Aside0.mk A230
        clear A230
        have HC24 := Aside0.mk H
        clear H
        have hcz25_0 : wr.cell? ⟨gb555, 0, none⟩ = some (.slice A0_0 l0_0.length c0_0) := (blk_cell BK555.out 0).trans rfl
        have hcz25_1 : wr.cell? ⟨gb555, 1, none⟩ = some (.int .i64 a0_1) := (blk_cell BK555.out 1).trans rfl
        have hcz25_2 : wr.cell? ⟨gb555, 2, none⟩ = some (.int .i64 a0_2) := (blk_cell BK555.out 2).trans rfl
        have hfz25_0 := blk_frozen BK555.out 0
        have hfz25_1 := blk_frozen BK555.out 1
        have hfz25_2 := blk_frozen BK555.out 2
        have p557 : 0 ≤ (x10_1 : Int) := of_decide_eq_true (by first | (with_reducible assumption) | assumption)
        have q557 : x10_1 < (l0_0.length : Int) := of_decide_eq_true (by first | (with_reducible assumption) | assumption)
        obtain ⟨ad557, e557, hx557_0, hx557_1, hx557_2⟩ := at_T96 HR0_0.out x10_1 p557 q557
        cases e557
        replace hx557_0 := (HB.out.cell (World.block_lt_of_cell? w _ hx557_0)).trans hx557_0
        replace hx557_1 := (HB.out.cell (World.block_lt_of_cell? w _ hx557_1)).trans hx557_1
        replace hx557_2 := (HB.out.cell (World.block_lt_of_cell? w _ hx557_2)).trans hx557_2
        replace p557 := eq_true p557
        replace q557 := eq_true q557
        go_upto_if 51 with (first | ((with_reducible refine gate_dst (N := 11) rfl ?_); refine box_event ?hg (N := 11) ?hd (cs := #[.int .i64 0, .int .i64 0, .int .i64 0]) (t := 96) ?hr ?_; (case hd => rfl); (case hg => rfl); (case hr => first | (go_simp; done) | (go_simp; rfl)); intro gb558 hg w26 hbox hb; have n0_ := Aside0.mk (blk_below (g := gb555) (o := .cells #[.slice (some ad557) l0_0.length c0_0, .int .i64 a0_1, .int .i64 a0_2] 33 (0, 0)) (by (with_reducible repeat (first | refine blk_drewN ?_ _ | refine blk_drew ?_ | refine blk_alloc ?_ _)); exact BK555.out) hb); have n1_ := Aside0.mk (below_step (by repeat (first | (with_reducible first | exact HB.out | apply below_alloc | apply pw_below_drewN | apply below_drew1 | refine below_set ?_ GE555.out) | exact HB.out)) hb); have n2_ := Aside0.mk (hbox); have n3_ := Aside0.mk ((by rw [hg]; exact (below_size (by repeat (first | (with_reducible first | exact HB.out | apply below_alloc | apply pw_below_drewN | apply below_drew1 | refine below_set ?_ GE555.out) | exact HB.out))) : w.heap.size ≤ gb558)); have n4_ := Aside0.mk ((by rw [hg]; exact (below_size (by repeat (first | (with_reducible first | exact HB.out | apply below_alloc | apply pw_below_drewN | apply below_drew1 | refine below_set ?_ GE555.out) | exact HB.out))) : w.heap.size ≤ gb558)); have n5_ := Aside0.mk ((by rw [hg]; exact Nat.ne_of_lt (blk_lt (g := gb555) (o := .cells #[.slice (some ad557) l0_0.length c0_0, .int .i64 a0_1, .int .i64 a0_2] 33 (0, 0)) (by (with_reducible repeat (first | refine blk_drewN ?_ _ | refine blk_drew ?_ | refine blk_alloc ?_ _)); exact BK555.out)) : gb555 ≠ gb558)); have n6_ := Aside0.mk ((by rw [hg]; exact Nat.ne_of_gt (blk_lt (g := gb555) (o := .cells #[.slice (some ad557) l0_0.length c0_0, .int .i64 a0_1, .int .i64 a0_2] 33 (0, 0)) (by (with_reducible repeat (first | refine blk_drewN ?_ _ | refine blk_drew ?_ | refine blk_alloc ?_ _)); exact BK555.out)) : gb558 ≠ gb555)); clear BK555; clear HB; have BK555 := n0_; have HB := n1_; have BK558 := n2_; have GW558 := n3_; have GE558 := n4_; have NB555_558 := n5_; have NB558_555 := n6_; clear n0_ n1_ n2_ n3_ n4_ n5_ n6_; clear hb hbox hg; have hnb27 := NB558_555.out; have hnc27 := NB555_558.out; have hcz28_0 : w26.cell? ⟨gb558, 0, none⟩ = some (.int .i64 0) := (blk_cell BK558.out 0).trans rfl; have hcz28_1 : w26.cell? ⟨gb558, 1, none⟩ = some (.int .i64 0) := (blk_cell BK558.out 1).trans rfl; have hcz28_2 : w26.cell? ⟨gb558, 2, none⟩ = some (.int .i64 0) := (blk_cell BK558.out 2).trans rfl; have hfz28_0 := blk_frozen BK558.out 0; have hfz28_1 := blk_frozen BK558.out 1; have hfz28_2 := blk_frozen BK558.out 2) | ((with_reducible refine gate_callee (f := 75) rfl ?_); refine goesL_ (some 44) rfl rfl Try.func75 (by kernel_rfl) rfl #[.agg #[.int .i64 ((rd_T96 l0_0 x10_1).f0), .int .i64 ((rd_T96 l0_0 x10_1).f1), .int .i64 ((rd_T96 l0_0 x10_1).f2)], .slice A1 l1.length c1, .int .i64 a2, .int .i64 a3] rfl (ma4_ rfl rfl rfl rfl) ?_; (with_reducible refine (spec_l06Base.calls k1 ((rd_T96 l0_0 x10_1).f0) ((rd_T96 l0_0 x10_1).f1) ((rd_T96 l0_0 x10_1).f2) _ _ l1 a2 a3 t559 _ ?side1 ?side2 A23.out).mono ?_); (case side1 => exact Kd.C_below HR1.out (by repeat (first | (with_reducible first | exact HB.out | apply below_alloc | apply pw_below_drewN | apply below_drew1 | refine below_set ?_ GE555.out | refine below_set ?_ GE558.out) | exact HB.out))); (case side2 => exact HC1.out); rintro e w29 ⟨rfl, hb⟩; refine ⟨_, rfl, ?_⟩; have n0_ := Aside0.mk (blk_below (g := gb555) (o := .cells #[.slice (some ad557) l0_0.length c0_0, .int .i64 a0_1, .int .i64 a0_2] 33 (0, 0)) (by (with_reducible repeat (first | refine blk_drewN ?_ _ | refine blk_drew ?_ | refine blk_alloc ?_ _)); refine blk_far ?_ NB555_558.out _; (with_reducible repeat (first | refine blk_drewN ?_ _ | refine blk_drew ?_ | refine blk_alloc ?_ _)); refine blk_far ?_ NB555_558.out _; (with_reducible repeat (first | refine blk_drewN ?_ _ | refine blk_drew ?_ | refine blk_alloc ?_ _)); refine blk_far ?_ NB555_558.out _; (with_reducible repeat (first | refine blk_drewN ?_ _ | refine blk_drew ?_ | refine blk_alloc ?_ _)); exact BK555.out) hb); have n1_ := Aside0.mk (blk_below (g := gb558) (o := .cells #[.int .i64 ((rd_T96 l0_0 x10_1).f0), .int .i64 ((rd_T96 l0_0 x10_1).f1), .int .i64 ((rd_T96 l0_0 x10_1).f2)] 96 (0, 0)) (by (with_reducible repeat (first | refine blk_drewN ?_ _ | refine blk_drew ?_ | refine blk_alloc ?_ _)); refine blk_put (cs := #[.int .i64 ((rd_T96 l0_0 x10_1).f0), .int .i64 ((rd_T96 l0_0 x10_1).f1), .int .i64 0]) ?_ 2 _ rfl; (with_reducible repeat (first | refine blk_drewN ?_ _ | refine blk_drew ?_ | refine blk_alloc ?_ _)); refine blk_put (cs := #[.int .i64 ((rd_T96 l0_0 x10_1).f0), .int .i64 0, .int .i64 0]) ?_ 1 _ rfl; (with_reducible repeat (first | refine blk_drewN ?_ _ | refine blk_drew ?_ | refine blk_alloc ?_ _)); refine blk_put (cs := #[.int .i64 0, .int .i64 0, .int .i64 0]) ?_ 0 _ rfl; (with_reducible repeat (first | refine blk_drewN ?_ _ | refine blk_drew ?_ | refine blk_alloc ?_ _)); exact BK558.out) hb); have n2_ := Aside0.mk (below_step (by repeat (first | (with_reducible first | exact HB.out | apply below_alloc | apply pw_below_drewN | apply below_drew1 | refine below_set ?_ GE555.out | refine below_set ?_ GE558.out) | exact HB.out)) hb); clear BK555; clear BK558; clear HB; have BK555 := n0_; have BK558 := n1_; have HB := n2_; clear n0_ n1_ n2_; (try clear hb); have hcz30_0 : w29.cell? ⟨gb558, 0, none⟩ = some (.int .i64 ((rd_T96 l0_0 x10_1).f0)) := (blk_cell BK558.out 0).trans rfl; have hcz30_1 : w29.cell? ⟨gb558, 1, none⟩ = some (.int .i64 ((rd_T96 l0_0 x10_1).f1)) := (blk_cell BK558.out 1).trans rfl; have hcz30_2 : w29.cell? ⟨gb558, 2, none⟩ = some (.int .i64 ((rd_T96 l0_0 x10_1).f2)) := (blk_cell BK558.out 2).trans rfl; have hfz30_0 := blk_frozen BK558.out 0; have hfz30_1 := blk_frozen BK558.out 1; have hfz30_2 := blk_frozen BK558.out 2))
        (try simp only [Act.put, List.setIfInBounds_toArray, List.set_cons_zero, List.set_cons_succ])
        go_cut [13] (fun v13 wc => ∃ (kq : Nat) (x13_23 : Int), v13 = .int .i64 x13_23 ∧ Aside0 (spec_UpBound.j1 kq l1 a2 a3 x9_1 x10_1 x13_23 l0_0 a0_1 a0_2 = some r) ∧ Aside0 (kq ≤ k1) ∧ Aside0 (wc.heap[gb555]? = some (.cells #[(.slice (some ad557) l0_0.length c0_0), .int .i64 a0_1, .int .i64 a0_2] 33 (0, 0))) ∧ Aside0 (wc.heap[gb558]? = some (.cells #[.int .i64 ((rd_T96 l0_0 x10_1).f0), .int .i64 ((rd_T96 l0_0 x10_1).f1), .int .i64 ((rd_T96 l0_0 x10_1).f2)] 96 (0, 0))) ∧ Aside0 (Below w.heap.size w wc))
        case first =>
         have H := HC24.out
         clear HC24
         by_cases c31 : ((rd_T96 l0_0 x10_1).f0) = 1
         ·rw [if_pos c31] at H
          have c31b0 : (((rd_T96 l0_0 x10_1).f0) == 1) = true := beq_iff_eq.mpr c31
          have c31b1 : (((rd_T96 l0_0 x10_1).f0) != 1) = false := bne_eq_false_iff_eq.mpr c31
          clear c31
          (first | rw [c31b0] | (simp only [i64_w, i32_w]; rw [c31b0]) | skip)
          replace H := Option.bind_eq_some_iff.mp H
          obtain ⟨t560, A320, H⟩ := H
          replace H : (spec_UpBound.j1 k1 l1 a2 a3 x9_1 x10_1 t560 l0_0 a0_1 a0_2) = some r := H
          have A32 := Aside0.mk A320
          clear A320
          have H' := Aside0.mk H
          clear H
          have hnb33 := NB558_555.out
          have hnc33 := NB555_558.out
          have hcz34_0 : w29.cell? ⟨gb558, 0, none⟩ = some (.int .i64 ((rd_T96 l0_0 x10_1).f0)) := (blk_cell BK558.out 0).trans rfl
          have hcz34_1 : w29.cell? ⟨gb558, 1, none⟩ = some (.int .i64 ((rd_T96 l0_0 x10_1).f1)) := (blk_cell BK558.out 1).trans rfl
          have hcz34_2 : w29.cell? ⟨gb558, 2, none⟩ = some (.int .i64 ((rd_T96 l0_0 x10_1).f2)) := (blk_cell BK558.out 2).trans rfl
          have hfz34_0 := blk_frozen BK558.out 0
          have hfz34_1 := blk_frozen BK558.out 1
          have hfz34_2 := blk_frozen BK558.out 2
          go_wp2_with (first | ((with_reducible refine gate_callee (f := 76) rfl ?_); refine goesL_ (some 57) rfl rfl Try.func76 (by kernel_rfl) rfl #[.int .i64 (wrap64 (t559 * (wrap64 (100 + ((rd_T96 l0_0 x10_1).f1))))), .int .i64 100] rfl (ma2_ rfl rfl) ?_; (with_reducible refine (spec_CeilDiv.calls (wrap64 (t559 * (wrap64 (100 + ((rd_T96 l0_0 x10_1).f1))))) 100 t560 _ A32.out).mono ?_); rintro e w' ⟨rfl, ⟨nd, rfl⟩⟩; refine ⟨_, rfl, ?_⟩))
          go_meet
          case rel => exact ⟨_, (t560), (by first | rfl | (simp; done) | (simp [*]; done)), H', ⟨by have := HK1.out; first | omega | exact Nat.le_refl _⟩, ⟨by (with_reducible repeat (first | refine blk_drewN ?_ _ | refine blk_drew ?_ | refine blk_alloc ?_ _)); exact BK555.out⟩, ⟨by (with_reducible repeat (first | refine blk_drewN ?_ _ | refine blk_drew ?_ | refine blk_alloc ?_ _)); exact BK558.out⟩, ⟨by repeat (first | (with_reducible first | exact HB.out | apply below_alloc | apply pw_below_drewN | apply below_drew1 | refine below_set ?_ GE555.out | refine below_set ?_ GE558.out) | exact HB.out)⟩⟩
         ·rw [if_neg c31] at H
          have c31b0 : (((rd_T96 l0_0 x10_1).f0) == 1) = false := beq_eq_false_iff_ne.mpr c31
          have c31b1 : (((rd_T96 l0_0 x10_1).f0) != 1) = true := bne_iff_ne.mpr c31
          (first | rw [c31b0] | (simp only [i64_w, i32_w]; rw [c31b0]) | skip)
          have H' := Aside0.mk H
          clear H
          go_wp2
          go_meet
          case rel => exact ⟨_, (wrap64 (t559 + ((rd_T96 l0_0 x10_1).f1))), (by first | rfl | (simp; done) | (simp [*]; done)), H', ⟨by have := HK1.out; first | omega | exact Nat.le_refl _⟩, ⟨by (with_reducible repeat (first | refine blk_drewN ?_ _ | refine blk_drew ?_ | refine blk_alloc ?_ _)); exact BK555.out⟩, ⟨by (with_reducible repeat (first | refine blk_drewN ?_ _ | refine blk_drew ?_ | refine blk_alloc ?_ _)); exact BK558.out⟩, ⟨by repeat (first | (with_reducible first | exact HB.out | apply below_alloc | apply pw_below_drewN | apply below_drew1 | refine below_set ?_ GE555.out | refine below_set ?_ GE558.out) | exact HB.out)⟩⟩
        case rest =>
         clear HC24
         try clear c1
         try clear c2
         try clear p2
         try clear c3
         try clear p5
         try clear q5
         try clear hx5
         try clear c6
         try clear p6
         try clear c7
         try clear c7b0
         try clear c7b1
         try clear c12
         try clear c12b0
         try clear c12b1
         try clear c12b2
         try clear c21
         try clear c21b0
         try clear c22
         try clear c22b0
         try clear c26
         try clear c27
         try clear c31
         try clear c31b0
         try clear c31b1
         try clear c33
         try clear hcz11_0
         try clear hcz11_1
         try clear hcz11_2
         try clear hcz14_0
         try clear hcz14_1
         try clear hcz14_2
         try clear hcz16_0
         try clear hcz16_1
         try clear hcz16_2
         try clear hcz18_0
         try clear hcz18_1
         try clear hcz18_2
         try clear hcz20_0
         try clear hcz20_1
         try clear hcz20_2
         try clear hcz25_0
         try clear hcz25_1
         try clear hcz25_2
         try clear hcz28_0
         try clear hcz28_1
         try clear hcz28_2
         try clear hcz30_0
         try clear hcz30_1
         try clear hcz30_2
         try clear hcz34_0
         try clear hcz34_1
         try clear hcz34_2
         try clear hcz9_0
         try clear hcz9_1
         try clear hcz9_2
         try clear hfz11_0
         try clear hfz11_1
         try clear hfz11_2
         try clear hfz14_0
         try clear hfz14_1
         try clear hfz14_2
         try clear hfz16_0
         try clear hfz16_1
         try clear hfz16_2
         try clear hfz18_0
         try clear hfz18_1
         try clear hfz18_2
         try clear hfz20_0
         try clear hfz20_1
         try clear hfz20_2
         try clear hfz25_0
         try clear hfz25_1
         try clear hfz25_2
         try clear hfz28_0
         try clear hfz28_1
         try clear hfz28_2
         try clear hfz30_0
         try clear hfz30_1
         try clear hfz30_2
         try clear hfz34_0
         try clear hfz34_1
         try clear hfz34_2
         try clear hfz9_0
         try clear hfz9_1
         try clear hfz9_2
         try clear hx557_0
         try clear hx557_1
         try clear hx557_2
         try clear p2
         try clear p557
         try clear q557
         obtain ⟨kq, x13_23, rfl, HA, HJ23, BK555, BK558, HB⟩ := hcut
         cases kq with
         | zero => exact absurd HA.out (by simp [spec_UpBound.j1])
         | succ kj23 =>
          have H := HA.out
          clear HA
          simp only [spec_UpBound.j1] at H
          by_cases c35 : x13_23 > 1000
          ·rw [if_pos c35] at H
           have c35b0 : decide (1000 < x13_23) = true := decide_eq_true c35
           clear c35
           by_cases c36 : x9_1 < 0
           ·rw [if_pos c36] at H
            have c36b0 : decide (x9_1 < 0) = true := decide_eq_true c36
            clear c36
            have H' := Aside0.mk H
            clear H
            go_wp2
            go_roundg kj23
            case measure => have := HK1.out; have := HJ23.out; omega
            case rel => exact ⟨(1000), (wrap64 (x10_1 + 1)), (by first | rfl | (simp; done) | (simp [*]; done)), (by first | rfl | (simp; done) | (simp [*]; done)), H', ⟨by have := HK1.out; have := HJ23.out; omega⟩, ⟨by (with_reducible repeat (first | refine blk_drewN ?_ _ | refine blk_drew ?_ | refine blk_alloc ?_ _)); exact BK555.out⟩, ⟨by repeat (first | (with_reducible first | exact HB.out | apply below_alloc | apply pw_below_drewN | apply below_drew1 | refine below_set ?_ GE555.out | refine below_set ?_ GE558.out) | exact HB.out)⟩⟩
           ·rw [if_neg c36] at H
            have c36b0 : decide (x9_1 < 0) = false := decide_eq_false c36
            clear c36
            by_cases c37 : a0_1 = 0
            ·rw [if_pos c37] at H
             have c37b0 : (a0_1 == 0) = true := beq_iff_eq.mpr c37
             have c37b1 : (a0_1 != 0) = false := bne_eq_false_iff_eq.mpr c37
             clear c37
             by_cases c38 : 1000 > x9_1
             ·rw [if_pos c38] at H
              have c38b0 : decide (x9_1 < 1000) = true := decide_eq_true c38
              clear c38
              have H' := Aside0.mk H
              clear H
              have hnb39 := NB555_558.out
              have hnc39 := NB558_555.out
              have hcz40_0 : wc.cell? ⟨gb555, 0, none⟩ = some (.slice (some ad557) l0_0.length c0_0) := (blk_cell BK555.out 0).trans rfl
              have hcz40_1 : wc.cell? ⟨gb555, 1, none⟩ = some (.int .i64 a0_1) := (blk_cell BK555.out 1).trans rfl
              have hcz40_2 : wc.cell? ⟨gb555, 2, none⟩ = some (.int .i64 a0_2) := (blk_cell BK555.out 2).trans rfl
              have hfz40_0 := blk_frozen BK555.out 0
              have hfz40_1 := blk_frozen BK555.out 1
              have hfz40_2 := blk_frozen BK555.out 2
              go_wp2
              go_roundg kj23
              case measure => have := HK1.out; have := HJ23.out; omega
              case rel => exact ⟨(1000), (wrap64 (x10_1 + 1)), (by first | rfl | (simp; done) | (simp [*]; done)), (by first | rfl | (simp; done) | (simp [*]; done)), H', ⟨by have := HK1.out; have := HJ23.out; omega⟩, ⟨by (with_reducible repeat (first | refine blk_drewN ?_ _ | refine blk_drew ?_ | refine blk_alloc ?_ _)); exact BK555.out⟩, ⟨by repeat (first | (with_reducible first | exact HB.out | apply below_alloc | apply pw_below_drewN | apply below_drew1 | refine below_set ?_ GE555.out | refine below_set ?_ GE558.out) | exact HB.out)⟩⟩
             ·rw [if_neg c38] at H
              have c38b0 : decide (x9_1 < 1000) = false := decide_eq_false c38
              clear c38
              by_cases c41 : a0_1 = 1
              ·rw [if_pos c41] at H
               have c41b0 : (a0_1 == 1) = true := beq_iff_eq.mpr c41
               have c41b1 : (a0_1 != 1) = false := bne_eq_false_iff_eq.mpr c41
               clear c41
               by_cases c42 : 1000 < x9_1
               ·rw [if_pos c42] at H
                have c42b0 : decide (1000 < x9_1) = true := decide_eq_true c42
                clear c42
                have H' := Aside0.mk H
                clear H
                have hnb43 := NB555_558.out
                have hnc43 := NB558_555.out
                have hcz44_0 : wc.cell? ⟨gb555, 0, none⟩ = some (.slice (some ad557) l0_0.length c0_0) := (blk_cell BK555.out 0).trans rfl
                have hcz44_1 : wc.cell? ⟨gb555, 1, none⟩ = some (.int .i64 a0_1) := (blk_cell BK555.out 1).trans rfl
                have hcz44_2 : wc.cell? ⟨gb555, 2, none⟩ = some (.int .i64 a0_2) := (blk_cell BK555.out 2).trans rfl
                have hfz44_0 := blk_frozen BK555.out 0
                have hfz44_1 := blk_frozen BK555.out 1
                have hfz44_2 := blk_frozen BK555.out 2
                go_wp2
                go_roundg kj23
                case measure => have := HK1.out; have := HJ23.out; omega
                case rel => exact ⟨(1000), (wrap64 (x10_1 + 1)), (by first | rfl | (simp; done) | (simp [*]; done)), (by first | rfl | (simp; done) | (simp [*]; done)), H', ⟨by have := HK1.out; have := HJ23.out; omega⟩, ⟨by (with_reducible repeat (first | refine blk_drewN ?_ _ | refine blk_drew ?_ | refine blk_alloc ?_ _)); exact BK555.out⟩, ⟨by repeat (first | (with_reducible first | exact HB.out | apply below_alloc | apply pw_below_drewN | apply below_drew1 | refine below_set ?_ GE555.out | refine below_set ?_ GE558.out) | exact HB.out)⟩⟩
               ·rw [if_neg c42] at H
                have c42b0 : decide (1000 < x9_1) = false := decide_eq_false c42
                clear c42
                have H' := Aside0.mk H
                clear H
                have hnb45 := NB555_558.out
                have hnc45 := NB558_555.out
                have hcz46_0 : wc.cell? ⟨gb555, 0, none⟩ = some (.slice (some ad557) l0_0.length c0_0) := (blk_cell BK555.out 0).trans rfl
                have hcz46_1 : wc.cell? ⟨gb555, 1, none⟩ = some (.int .i64 a0_1) := (blk_cell BK555.out 1).trans rfl
                have hcz46_2 : wc.cell? ⟨gb555, 2, none⟩ = some (.int .i64 a0_2) := (blk_cell BK555.out 2).trans rfl
                have hfz46_0 := blk_frozen BK555.out 0
                have hfz46_1 := blk_frozen BK555.out 1
                have hfz46_2 := blk_frozen BK555.out 2
                go_wp2
                go_roundg kj23
                case measure => have := HK1.out; have := HJ23.out; omega
                case rel => exact ⟨(x9_1), (wrap64 (x10_1 + 1)), (by first | rfl | (simp; done) | (simp [*]; done)), (by first | rfl | (simp; done) | (simp [*]; done)), H', ⟨by have := HK1.out; have := HJ23.out; omega⟩, ⟨by (with_reducible repeat (first | refine blk_drewN ?_ _ | refine blk_drew ?_ | refine blk_alloc ?_ _)); exact BK555.out⟩, ⟨by repeat (first | (with_reducible first | exact HB.out | apply below_alloc | apply pw_below_drewN | apply below_drew1 | refine below_set ?_ GE555.out | refine below_set ?_ GE558.out) | exact HB.out)⟩⟩
              ·rw [if_neg c41] at H
               have c41b0 : (a0_1 == 1) = false := beq_eq_false_iff_ne.mpr c41
               have c41b1 : (a0_1 != 1) = true := bne_iff_ne.mpr c41
               have H' := Aside0.mk H
               clear H
               have hnb47 := NB555_558.out
               have hnc47 := NB558_555.out
               have hcz48_0 : wc.cell? ⟨gb555, 0, none⟩ = some (.slice (some ad557) l0_0.length c0_0) := (blk_cell BK555.out 0).trans rfl
               have hcz48_1 : wc.cell? ⟨gb555, 1, none⟩ = some (.int .i64 a0_1) := (blk_cell BK555.out 1).trans rfl
               have hcz48_2 : wc.cell? ⟨gb555, 2, none⟩ = some (.int .i64 a0_2) := (blk_cell BK555.out 2).trans rfl
               have hfz48_0 := blk_frozen BK555.out 0
               have hfz48_1 := blk_frozen BK555.out 1
               have hfz48_2 := blk_frozen BK555.out 2
               go_wp2
               go_roundg kj23
               case measure => have := HK1.out; have := HJ23.out; omega
               case rel => exact ⟨(x9_1), (wrap64 (x10_1 + 1)), (by first | rfl | (simp; done) | (simp [*]; done)), (by first | rfl | (simp; done) | (simp [*]; done)), H', ⟨by have := HK1.out; have := HJ23.out; omega⟩, ⟨by (with_reducible repeat (first | refine blk_drewN ?_ _ | refine blk_drew ?_ | refine blk_alloc ?_ _)); exact BK555.out⟩, ⟨by repeat (first | (with_reducible first | exact HB.out | apply below_alloc | apply pw_below_drewN | apply below_drew1 | refine below_set ?_ GE555.out | refine below_set ?_ GE558.out) | exact HB.out)⟩⟩
            ·rw [if_neg c37] at H
             have c37b0 : (a0_1 == 0) = false := beq_eq_false_iff_ne.mpr c37
             have c37b1 : (a0_1 != 0) = true := bne_iff_ne.mpr c37
             by_cases c49 : a0_1 = 1
             ·rw [if_pos c49] at H
              have c49b0 : (a0_1 == 1) = true := beq_iff_eq.mpr c49
              have c49b1 : (a0_1 != 1) = false := bne_eq_false_iff_eq.mpr c49
              clear c49
              by_cases c50 : 1000 < x9_1
              ·rw [if_pos c50] at H
               have c50b0 : decide (1000 < x9_1) = true := decide_eq_true c50
               clear c50
               have H' := Aside0.mk H
               clear H
               have hnb51 := NB555_558.out
               have hnc51 := NB558_555.out
               have hcz52_0 : wc.cell? ⟨gb555, 0, none⟩ = some (.slice (some ad557) l0_0.length c0_0) := (blk_cell BK555.out 0).trans rfl
               have hcz52_1 : wc.cell? ⟨gb555, 1, none⟩ = some (.int .i64 a0_1) := (blk_cell BK555.out 1).trans rfl
               have hcz52_2 : wc.cell? ⟨gb555, 2, none⟩ = some (.int .i64 a0_2) := (blk_cell BK555.out 2).trans rfl
               have hfz52_0 := blk_frozen BK555.out 0
               have hfz52_1 := blk_frozen BK555.out 1
               have hfz52_2 := blk_frozen BK555.out 2
               go_wp2
               go_roundg kj23
               case measure => have := HK1.out; have := HJ23.out; omega
               case rel => exact ⟨(1000), (wrap64 (x10_1 + 1)), (by first | rfl | (simp; done) | (simp [*]; done)), (by first | rfl | (simp; done) | (simp [*]; done)), H', ⟨by have := HK1.out; have := HJ23.out; omega⟩, ⟨by (with_reducible repeat (first | refine blk_drewN ?_ _ | refine blk_drew ?_ | refine blk_alloc ?_ _)); exact BK555.out⟩, ⟨by repeat (first | (with_reducible first | exact HB.out | apply below_alloc | apply pw_below_drewN | apply below_drew1 | refine below_set ?_ GE555.out | refine below_set ?_ GE558.out) | exact HB.out)⟩⟩
              ·rw [if_neg c50] at H
               have c50b0 : decide (1000 < x9_1) = false := decide_eq_false c50
               clear c50
               have H' := Aside0.mk H
               clear H
               have hnb53 := NB555_558.out
               have hnc53 := NB558_555.out
               have hcz54_0 : wc.cell? ⟨gb555, 0, none⟩ = some (.slice (some ad557) l0_0.length c0_0) := (blk_cell BK555.out 0).trans rfl
               have hcz54_1 : wc.cell? ⟨gb555, 1, none⟩ = some (.int .i64 a0_1) := (blk_cell BK555.out 1).trans rfl
               have hcz54_2 : wc.cell? ⟨gb555, 2, none⟩ = some (.int .i64 a0_2) := (blk_cell BK555.out 2).trans rfl
               have hfz54_0 := blk_frozen BK555.out 0
               have hfz54_1 := blk_frozen BK555.out 1
               have hfz54_2 := blk_frozen BK555.out 2
               go_wp2
               go_roundg kj23
               case measure => have := HK1.out; have := HJ23.out; omega
               case rel => exact ⟨(x9_1), (wrap64 (x10_1 + 1)), (by first | rfl | (simp; done) | (simp [*]; done)), (by first | rfl | (simp; done) | (simp [*]; done)), H', ⟨by have := HK1.out; have := HJ23.out; omega⟩, ⟨by (with_reducible repeat (first | refine blk_drewN ?_ _ | refine blk_drew ?_ | refine blk_alloc ?_ _)); exact BK555.out⟩, ⟨by repeat (first | (with_reducible first | exact HB.out | apply below_alloc | apply pw_below_drewN | apply below_drew1 | refine below_set ?_ GE555.out | refine below_set ?_ GE558.out) | exact HB.out)⟩⟩
             ·rw [if_neg c49] at H
              have c49b0 : (a0_1 == 1) = false := beq_eq_false_iff_ne.mpr c49
              have c49b1 : (a0_1 != 1) = true := bne_iff_ne.mpr c49
              have H' := Aside0.mk H
              clear H
              have hnb55 := NB555_558.out
              have hnc55 := NB558_555.out
              have hcz56_0 : wc.cell? ⟨gb555, 0, none⟩ = some (.slice (some ad557) l0_0.length c0_0) := (blk_cell BK555.out 0).trans rfl
              have hcz56_1 : wc.cell? ⟨gb555, 1, none⟩ = some (.int .i64 a0_1) := (blk_cell BK555.out 1).trans rfl
              have hcz56_2 : wc.cell? ⟨gb555, 2, none⟩ = some (.int .i64 a0_2) := (blk_cell BK555.out 2).trans rfl
              have hfz56_0 := blk_frozen BK555.out 0
              have hfz56_1 := blk_frozen BK555.out 1
              have hfz56_2 := blk_frozen BK555.out 2
              go_wp2
              go_roundg kj23
              case measure => have := HK1.out; have := HJ23.out; omega
              case rel => exact ⟨(x9_1), (wrap64 (x10_1 + 1)), (by first | rfl | (simp; done) | (simp [*]; done)), (by first | rfl | (simp; done) | (simp [*]; done)), H', ⟨by have := HK1.out; have := HJ23.out; omega⟩, ⟨by (with_reducible repeat (first | refine blk_drewN ?_ _ | refine blk_drew ?_ | refine blk_alloc ?_ _)); exact BK555.out⟩, ⟨by repeat (first | (with_reducible first | exact HB.out | apply below_alloc | apply pw_below_drewN | apply below_drew1 | refine below_set ?_ GE555.out | refine below_set ?_ GE558.out) | exact HB.out)⟩⟩
          ·rw [if_neg c35] at H
           have c35b0 : decide (1000 < x13_23) = false := decide_eq_false c35
           clear c35
           by_cases c57 : x9_1 < 0
           ·rw [if_pos c57] at H
            have c57b0 : decide (x9_1 < 0) = true := decide_eq_true c57
            clear c57
            have H' := Aside0.mk H
            clear H
            go_wp2
            go_roundg kj23
            case measure => have := HK1.out; have := HJ23.out; omega
            case rel => exact ⟨(x13_23), (wrap64 (x10_1 + 1)), (by first | rfl | (simp; done) | (simp [*]; done)), (by first | rfl | (simp; done) | (simp [*]; done)), H', ⟨by have := HK1.out; have := HJ23.out; omega⟩, ⟨by (with_reducible repeat (first | refine blk_drewN ?_ _ | refine blk_drew ?_ | refine blk_alloc ?_ _)); exact BK555.out⟩, ⟨by repeat (first | (with_reducible first | exact HB.out | apply below_alloc | apply pw_below_drewN | apply below_drew1 | refine below_set ?_ GE555.out | refine below_set ?_ GE558.out) | exact HB.out)⟩⟩
           ·rw [if_neg c57] at H
            have c57b0 : decide (x9_1 < 0) = false := decide_eq_false c57
            clear c57
            by_cases c58 : a0_1 = 0
            ·rw [if_pos c58] at H
             have c58b0 : (a0_1 == 0) = true := beq_iff_eq.mpr c58
             have c58b1 : (a0_1 != 0) = false := bne_eq_false_iff_eq.mpr c58
             clear c58
             by_cases c59 : x13_23 > x9_1
             ·rw [if_pos c59] at H
              have c59b0 : decide (x9_1 < x13_23) = true := decide_eq_true c59
              clear c59
              have H' := Aside0.mk H
              clear H
              have hnb60 := NB555_558.out
              have hnc60 := NB558_555.out
              have hcz61_0 : wc.cell? ⟨gb555, 0, none⟩ = some (.slice (some ad557) l0_0.length c0_0) := (blk_cell BK555.out 0).trans rfl
              have hcz61_1 : wc.cell? ⟨gb555, 1, none⟩ = some (.int .i64 a0_1) := (blk_cell BK555.out 1).trans rfl
              have hcz61_2 : wc.cell? ⟨gb555, 2, none⟩ = some (.int .i64 a0_2) := (blk_cell BK555.out 2).trans rfl
              have hfz61_0 := blk_frozen BK555.out 0
              have hfz61_1 := blk_frozen BK555.out 1
              have hfz61_2 := blk_frozen BK555.out 2
              go_wp2
              go_roundg kj23
              case measure => have := HK1.out; have := HJ23.out; omega
              case rel => exact ⟨(x13_23), (wrap64 (x10_1 + 1)), (by first | rfl | (simp; done) | (simp [*]; done)), (by first | rfl | (simp; done) | (simp [*]; done)), H', ⟨by have := HK1.out; have := HJ23.out; omega⟩, ⟨by (with_reducible repeat (first | refine blk_drewN ?_ _ | refine blk_drew ?_ | refine blk_alloc ?_ _)); exact BK555.out⟩, ⟨by repeat (first | (with_reducible first | exact HB.out | apply below_alloc | apply pw_below_drewN | apply below_drew1 | refine below_set ?_ GE555.out | refine below_set ?_ GE558.out) | exact HB.out)⟩⟩
             ·rw [if_neg c59] at H
              have c59b0 : decide (x9_1 < x13_23) = false := decide_eq_false c59
              clear c59
              by_cases c62 : a0_1 = 1
              ·rw [if_pos c62] at H
               have c62b0 : (a0_1 == 1) = true := beq_iff_eq.mpr c62
               have c62b1 : (a0_1 != 1) = false := bne_eq_false_iff_eq.mpr c62
               clear c62
               by_cases c63 : x13_23 < x9_1
               ·rw [if_pos c63] at H
                have c63b0 : decide (x13_23 < x9_1) = true := decide_eq_true c63
                clear c63
                have H' := Aside0.mk H
                clear H
                have hnb64 := NB555_558.out
                have hnc64 := NB558_555.out
                have hcz65_0 : wc.cell? ⟨gb555, 0, none⟩ = some (.slice (some ad557) l0_0.length c0_0) := (blk_cell BK555.out 0).trans rfl
                have hcz65_1 : wc.cell? ⟨gb555, 1, none⟩ = some (.int .i64 a0_1) := (blk_cell BK555.out 1).trans rfl
                have hcz65_2 : wc.cell? ⟨gb555, 2, none⟩ = some (.int .i64 a0_2) := (blk_cell BK555.out 2).trans rfl
                have hfz65_0 := blk_frozen BK555.out 0
                have hfz65_1 := blk_frozen BK555.out 1
                have hfz65_2 := blk_frozen BK555.out 2
                go_wp2
                go_roundg kj23
                case measure => have := HK1.out; have := HJ23.out; omega
                case rel => exact ⟨(x13_23), (wrap64 (x10_1 + 1)), (by first | rfl | (simp; done) | (simp [*]; done)), (by first | rfl | (simp; done) | (simp [*]; done)), H', ⟨by have := HK1.out; have := HJ23.out; omega⟩, ⟨by (with_reducible repeat (first | refine blk_drewN ?_ _ | refine blk_drew ?_ | refine blk_alloc ?_ _)); exact BK555.out⟩, ⟨by repeat (first | (with_reducible first | exact HB.out | apply below_alloc | apply pw_below_drewN | apply below_drew1 | refine below_set ?_ GE555.out | refine below_set ?_ GE558.out) | exact HB.out)⟩⟩
               ·rw [if_neg c63] at H
                have c63b0 : decide (x13_23 < x9_1) = false := decide_eq_false c63
                clear c63
                have H' := Aside0.mk H
                clear H
                have hnb66 := NB555_558.out
                have hnc66 := NB558_555.out
                have hcz67_0 : wc.cell? ⟨gb555, 0, none⟩ = some (.slice (some ad557) l0_0.length c0_0) := (blk_cell BK555.out 0).trans rfl
                have hcz67_1 : wc.cell? ⟨gb555, 1, none⟩ = some (.int .i64 a0_1) := (blk_cell BK555.out 1).trans rfl
                have hcz67_2 : wc.cell? ⟨gb555, 2, none⟩ = some (.int .i64 a0_2) := (blk_cell BK555.out 2).trans rfl
                have hfz67_0 := blk_frozen BK555.out 0
                have hfz67_1 := blk_frozen BK555.out 1
                have hfz67_2 := blk_frozen BK555.out 2
                go_wp2
                go_roundg kj23
                case measure => have := HK1.out; have := HJ23.out; omega
                case rel => exact ⟨(x9_1), (wrap64 (x10_1 + 1)), (by first | rfl | (simp; done) | (simp [*]; done)), (by first | rfl | (simp; done) | (simp [*]; done)), H', ⟨by have := HK1.out; have := HJ23.out; omega⟩, ⟨by (with_reducible repeat (first | refine blk_drewN ?_ _ | refine blk_drew ?_ | refine blk_alloc ?_ _)); exact BK555.out⟩, ⟨by repeat (first | (with_reducible first | exact HB.out | apply below_alloc | apply pw_below_drewN | apply below_drew1 | refine below_set ?_ GE555.out | refine below_set ?_ GE558.out) | exact HB.out)⟩⟩
              ·rw [if_neg c62] at H
               have c62b0 : (a0_1 == 1) = false := beq_eq_false_iff_ne.mpr c62
               have c62b1 : (a0_1 != 1) = true := bne_iff_ne.mpr c62
               have H' := Aside0.mk H
               clear H
               have hnb68 := NB555_558.out
               have hnc68 := NB558_555.out
               have hcz69_0 : wc.cell? ⟨gb555, 0, none⟩ = some (.slice (some ad557) l0_0.length c0_0) := (blk_cell BK555.out 0).trans rfl
               have hcz69_1 : wc.cell? ⟨gb555, 1, none⟩ = some (.int .i64 a0_1) := (blk_cell BK555.out 1).trans rfl
               have hcz69_2 : wc.cell? ⟨gb555, 2, none⟩ = some (.int .i64 a0_2) := (blk_cell BK555.out 2).trans rfl
               have hfz69_0 := blk_frozen BK555.out 0
               have hfz69_1 := blk_frozen BK555.out 1
               have hfz69_2 := blk_frozen BK555.out 2
               go_wp2
               go_roundg kj23
               case measure => have := HK1.out; have := HJ23.out; omega
               case rel => exact ⟨(x9_1), (wrap64 (x10_1 + 1)), (by first | rfl | (simp; done) | (simp [*]; done)), (by first | rfl | (simp; done) | (simp [*]; done)), H', ⟨by have := HK1.out; have := HJ23.out; omega⟩, ⟨by (with_reducible repeat (first | refine blk_drewN ?_ _ | refine blk_drew ?_ | refine blk_alloc ?_ _)); exact BK555.out⟩, ⟨by repeat (first | (with_reducible first | exact HB.out | apply below_alloc | apply pw_below_drewN | apply below_drew1 | refine below_set ?_ GE555.out | refine below_set ?_ GE558.out) | exact HB.out)⟩⟩
            ·rw [if_neg c58] at H
             have c58b0 : (a0_1 == 0) = false := beq_eq_false_iff_ne.mpr c58
             have c58b1 : (a0_1 != 0) = true := bne_iff_ne.mpr c58
             by_cases c70 : a0_1 = 1
             ·rw [if_pos c70] at H
              have c70b0 : (a0_1 == 1) = true := beq_iff_eq.mpr c70
              have c70b1 : (a0_1 != 1) = false := bne_eq_false_iff_eq.mpr c70
              clear c70
              by_cases c71 : x13_23 < x9_1
              ·rw [if_pos c71] at H
               have c71b0 : decide (x13_23 < x9_1) = true := decide_eq_true c71
               clear c71
               have H' := Aside0.mk H
               clear H
               have hnb72 := NB555_558.out
               have hnc72 := NB558_555.out
               have hcz73_0 : wc.cell? ⟨gb555, 0, none⟩ = some (.slice (some ad557) l0_0.length c0_0) := (blk_cell BK555.out 0).trans rfl
               have hcz73_1 : wc.cell? ⟨gb555, 1, none⟩ = some (.int .i64 a0_1) := (blk_cell BK555.out 1).trans rfl
               have hcz73_2 : wc.cell? ⟨gb555, 2, none⟩ = some (.int .i64 a0_2) := (blk_cell BK555.out 2).trans rfl
               have hfz73_0 := blk_frozen BK555.out 0
               have hfz73_1 := blk_frozen BK555.out 1
               have hfz73_2 := blk_frozen BK555.out 2
               go_wp2
               go_roundg kj23
               case measure => have := HK1.out; have := HJ23.out; omega
               case rel => exact ⟨(x13_23), (wrap64 (x10_1 + 1)), (by first | rfl | (simp; done) | (simp [*]; done)), (by first | rfl | (simp; done) | (simp [*]; done)), H', ⟨by have := HK1.out; have := HJ23.out; omega⟩, ⟨by (with_reducible repeat (first | refine blk_drewN ?_ _ | refine blk_drew ?_ | refine blk_alloc ?_ _)); exact BK555.out⟩, ⟨by repeat (first | (with_reducible first | exact HB.out | apply below_alloc | apply pw_below_drewN | apply below_drew1 | refine below_set ?_ GE555.out | refine below_set ?_ GE558.out) | exact HB.out)⟩⟩
              ·rw [if_neg c71] at H
               have c71b0 : decide (x13_23 < x9_1) = false := decide_eq_false c71
               clear c71
               have H' := Aside0.mk H
               clear H
               have hnb74 := NB555_558.out
               have hnc74 := NB558_555.out
               have hcz75_0 : wc.cell? ⟨gb555, 0, none⟩ = some (.slice (some ad557) l0_0.length c0_0) := (blk_cell BK555.out 0).trans rfl
               have hcz75_1 : wc.cell? ⟨gb555, 1, none⟩ = some (.int .i64 a0_1) := (blk_cell BK555.out 1).trans rfl
               have hcz75_2 : wc.cell? ⟨gb555, 2, none⟩ = some (.int .i64 a0_2) := (blk_cell BK555.out 2).trans rfl
               have hfz75_0 := blk_frozen BK555.out 0
               have hfz75_1 := blk_frozen BK555.out 1
               have hfz75_2 := blk_frozen BK555.out 2
               go_wp2
               go_roundg kj23
               case measure => have := HK1.out; have := HJ23.out; omega
               case rel => exact ⟨(x9_1), (wrap64 (x10_1 + 1)), (by first | rfl | (simp; done) | (simp [*]; done)), (by first | rfl | (simp; done) | (simp [*]; done)), H', ⟨by have := HK1.out; have := HJ23.out; omega⟩, ⟨by (with_reducible repeat (first | refine blk_drewN ?_ _ | refine blk_drew ?_ | refine blk_alloc ?_ _)); exact BK555.out⟩, ⟨by repeat (first | (with_reducible first | exact HB.out | apply below_alloc | apply pw_below_drewN | apply below_drew1 | refine below_set ?_ GE555.out | refine below_set ?_ GE558.out) | exact HB.out)⟩⟩
             ·rw [if_neg c70] at H
              have c70b0 : (a0_1 == 1) = false := beq_eq_false_iff_ne.mpr c70
              have c70b1 : (a0_1 != 1) = true := bne_iff_ne.mpr c70
              have H' := Aside0.mk H
              clear H
              have hnb76 := NB555_558.out
              have hnc76 := NB558_555.out
              have hcz77_0 : wc.cell? ⟨gb555, 0, none⟩ = some (.slice (some ad557) l0_0.length c0_0) := (blk_cell BK555.out 0).trans rfl
              have hcz77_1 : wc.cell? ⟨gb555, 1, none⟩ = some (.int .i64 a0_1) := (blk_cell BK555.out 1).trans rfl
              have hcz77_2 : wc.cell? ⟨gb555, 2, none⟩ = some (.int .i64 a0_2) := (blk_cell BK555.out 2).trans rfl
              have hfz77_0 := blk_frozen BK555.out 0
              have hfz77_1 := blk_frozen BK555.out 1
              have hfz77_2 := blk_frozen BK555.out 2
              go_wp2
              go_roundg kj23
              case measure => have := HK1.out; have := HJ23.out; omega
              case rel => exact ⟨(x9_1), (wrap64 (x10_1 + 1)), (by first | rfl | (simp; done) | (simp [*]; done)), (by first | rfl | (simp; done) | (simp [*]; done)), H', ⟨by have := HK1.out; have := HJ23.out; omega⟩, ⟨by (with_reducible repeat (first | refine blk_drewN ?_ _ | refine blk_drew ?_ | refine blk_alloc ?_ _)); exact BK555.out⟩, ⟨by repeat (first | (with_reducible first | exact HB.out | apply below_alloc | apply pw_below_drewN | apply below_drew1 | refine below_set ?_ GE555.out | refine below_set ?_ GE558.out) | exact HB.out)⟩⟩
       ·rw [if_neg c22] at H
        exact absurd H (by simp)
      ·rw [if_neg c21] at H
       have c21b0 : decide (x10_1 < (l0_0.length : Int)) = false := decide_eq_false c21
       clear c21
       by_cases c78 : x9_1 < a3
       ·rw [if_pos c78] at H
        have c78b0 : decide (x9_1 < a3) = true := decide_eq_true c78
        clear c78
        obtain rfl := Option.some.inj H
        have hcz79_0 : wr.cell? ⟨gb555, 0, none⟩ = some (.slice A0_0 l0_0.length c0_0) := (blk_cell BK555.out 0).trans rfl
        have hcz79_1 : wr.cell? ⟨gb555, 1, none⟩ = some (.int .i64 a0_1) := (blk_cell BK555.out 1).trans rfl
        have hcz79_2 : wr.cell? ⟨gb555, 2, none⟩ = some (.int .i64 a0_2) := (blk_cell BK555.out 2).trans rfl
        have hfz79_0 := blk_frozen BK555.out 0
        have hfz79_1 := blk_frozen BK555.out 1
        have hfz79_2 := blk_frozen BK555.out 2
        go_wp2
        go_ret
        exact ⟨by first | rfl | (simp [errW_none, errW_some] <;> rfl) | (simp [*, errW_none, errW_some] <;> rfl), by repeat (first | (with_reducible first | exact HB.out | apply below_alloc | apply pw_below_drewN | apply below_drew1 | refine below_set ?_ GE555.out) | exact HB.out)⟩
       ·rw [if_neg c78] at H
        have c78b0 : decide (x9_1 < a3) = false := decide_eq_false c78
        clear c78
        obtain rfl := Option.some.inj H
        have hcz80_0 : wr.cell? ⟨gb555, 0, none⟩ = some (.slice A0_0 l0_0.length c0_0) := (blk_cell BK555.out 0).trans rfl
        have hcz80_1 : wr.cell? ⟨gb555, 1, none⟩ = some (.int .i64 a0_1) := (blk_cell BK555.out 1).trans rfl
        have hcz80_2 : wr.cell? ⟨gb555, 2, none⟩ = some (.int .i64 a0_2) := (blk_cell BK555.out 2).trans rfl
        have hfz80_0 := blk_frozen BK555.out 0
        have hfz80_1 := blk_frozen BK555.out 1
        have hfz80_2 := blk_frozen BK555.out 2
        go_wp2
        go_ret
        exact ⟨by first | rfl | (simp [errW_none, errW_some] <;> rfl) | (simp [*, errW_none, errW_some] <;> rfl), by repeat (first | (with_reducible first | exact HB.out | apply below_alloc | apply pw_below_drewN | apply below_drew1 | refine below_set ?_ GE555.out) | exact HB.out)⟩
 ·replace c6 := Bool.eq_false_iff.mpr c6
  subst c6
  rw [if_neg (show ¬ (false = true) by decide)] at H
  obtain rfl := Option.some.inj H
  go_enter Try.func26, Try.ntmps26
  go_wp2_with (first | ((with_reducible refine gate_dst (N := 4) rfl ?_); refine box_event ?hg (N := 4) ?hd (cs := #[.slice A0_0 l0_0.length c0_0, .int .i64 a0_1, .int .i64 a0_2]) (t := 33) ?hr ?_; (case hd => rfl); (case hg => rfl); (case hr => first | (go_simp; done) | (go_simp; rfl)); intro gb555 hg w81 hbox hb; have n0_ := Aside0.mk (below_step (by repeat (first | (with_reducible first | exact HB.out | apply ba_ | apply bn_ | apply bd_) | exact HB.out)) hb); have n1_ := Aside0.mk (hbox); have n2_ := Aside0.mk ((by rw [hg]; exact (below_size (by repeat (first | (with_reducible first | exact HB.out | apply ba_ | apply bn_ | apply bd_) | exact HB.out))) : w.heap.size ≤ gb555)); have n3_ := Aside0.mk ((by rw [hg]; exact (below_size (by repeat (first | (with_reducible first | exact HB.out | apply ba_ | apply bn_ | apply bd_) | exact HB.out))) : w.heap.size ≤ gb555)); clear HB; have HB := n0_; have BK555 := n1_; have GW555 := n2_; have GE555 := n3_; clear n0_ n1_ n2_ n3_; clear hb hbox hg; have hcz82_0 : w81.cell? ⟨gb555, 0, none⟩ = some (.slice A0_0 l0_0.length c0_0) := (blk_cell BK555.out 0).trans rfl; have hcz82_1 : w81.cell? ⟨gb555, 1, none⟩ = some (.int .i64 a0_1) := (blk_cell BK555.out 1).trans rfl; have hcz82_2 : w81.cell? ⟨gb555, 2, none⟩ = some (.int .i64 a0_2) := (blk_cell BK555.out 2).trans rfl; have hfz82_0 := blk_frozen BK555.out 0; have hfz82_1 := blk_frozen BK555.out 1; have hfz82_2 := blk_frozen BK555.out 2) | ((with_reducible refine gate_callee (f := 74) rfl ?_); refine goesL_ (some 18) rfl rfl Try.func74 (by kernel_rfl) rfl #[.agg #[.slice A0_0 l0_0.length c0_0, .int .i64 a0_1, .int .i64 a0_2], .slice A1 l1.length c1, .int .i64 a2, .int .i64 a3] rfl (ma4_ rfl rfl rfl rfl) ?_; (with_reducible refine (spec_l06Good.calls k _ _ l0_0 a0_1 a0_2 _ _ l1 a2 a3 false _ ?side1 ?side2 ?side3 ?side4 A5.out).mono ?_); (case side1 => repeat (first | exact (Kd.C_below HR0_0.out HB.out) | with_reducible first | apply ca_ | apply cn_ | apply cd_)); (case side2 => exact HC0_0.out); (case side3 => repeat (first | exact (Kd.C_below HR1.out HB.out) | with_reducible first | apply ca_ | apply cn_ | apply cd_)); (case side4 => exact HC1.out); rintro e w83 ⟨rfl, hb⟩; refine ⟨_, rfl, ?_⟩; have n0_ := Aside0.mk (blk_below (g := gb555) (o := .cells #[.slice A0_0 l0_0.length c0_0, .int .i64 a0_1, .int .i64 a0_2] 33 (0, 0)) (by (with_reducible repeat (first | refine blk_drewN ?_ _ | refine blk_drew ?_ | refine blk_alloc ?_ _)); exact BK555.out) hb); have n1_ := Aside0.mk (below_step (by repeat (first | (with_reducible first | exact HB.out | apply below_alloc | apply pw_below_drewN | apply below_drew1 | refine below_set ?_ GE555.out) | exact HB.out)) hb); clear BK555; clear HB; have BK555 := n0_; have HB := n1_; clear n0_ n1_; (try clear hb)))
  go_ret
  exact ⟨by first | rfl | (simp [errW_none, errW_some] <;> rfl) | (simp [*, errW_none, errW_some] <;> rfl), by repeat (first | (with_reducible first | exact HB.out | apply below_alloc | apply pw_below_drewN | apply below_drew1 | refine below_set ?_ GE555.out) | exact HB.out)⟩

end Go.Proofs.Ytfjjlipfjddaiaa.U
