-- PRINTED by print.py (a twelfth state) out of the translation. Not trusted: Lean checks it.
import Derived.Test.YtfjjlipfjddaiaaU0
import Derived.Test.YtfjjlipfjddaiaaU10
import Derived.Test.YtfjjlipfjddaiaaU14
import Derived.Test.YtfjjlipfjddaiaaU19
import Derived.Test.YtfjjlipfjddaiaaU34
import Derived.Test.YtfjjlipfjddaiaaU38
import Derived.Test.YtfjjlipfjddaiaaU43
import Derived.Test.YtfjjlipfjddaiaaU61
import Derived.Test.YtfjjlipfjddaiaaU63
namespace Go.Proofs.Ytfjjlipfjddaiaa.U
open Go.RowKit Go.Proofs.YtfjjlipfjddaiaaW.PrintWords Go.Proofs.YtfjjlipfjddaiaaW.PrintLast Go.Proofs.YtfjjlipfjddaiaaW.PrintMore
attribute [local go_sem] max2_int min2_int max_two min_two max_three min_three max_four min_four   -- for this text's walks alone
set_option linter.unusedVariables false
set_option linter.unusedSimpArgs false

/-! ### laws_FnExactDownBound: function 12 -/
def laws_FnExactDownBound.f (k : Nat) (l0_0 : List (S125)) (a0_1 : Int) (a0_2 : Int) (l1 : List (S105)) (a2 : Int) (a3 : Int) : Option (Bool) := (laws_szSide.f l0_0 a0_1 a0_2 1048576).bind fun t616 => (if t616 < 0 then (some true) else ((laws_szMoveS.f l1 t616).bind fun t617 => (if t617 < 0 then (some true) else ((laws_toSide.f k l0_0 a0_1 a0_2).bind fun bt618 => ((laws_toMoveS.f k l1).bind fun t623 => ((spec_DownBound.f k bt618.1 bt618.2.1 bt618.2.2 t623 a2 a3).bind fun t626 => ((laws_toSide.f k l0_0 a0_1 a0_2).bind fun bt627 => ((laws_toMoveS.f k l1).bind fun t633 => ((impl_DownBound.f k bt627.1 bt627.2.1 bt627.2.2 t633 a2 a3).bind fun t636 => (if t636 = t626 then ((laws_toSide.f k l0_0 a0_1 a0_2).bind fun bt637 => ((laws_eqSide.f k bt627.1 bt627.2.1 bt627.2.2 bt637.1 bt637.2.1 bt637.2.2).bind fun t642 => (if t642 = true then ((laws_toMoveS.f k l1).bind fun t643 => ((laws_eqMoveS.f k t633 t643).bind fun t646 => (if t646 = true then (some true) else (some false)))) else (some false)))) else (some false)))))))))))
theorem laws_FnExactDownBound.mono : ∀ a0 a1 a2 a3 a4 a5 k, LeO (laws_FnExactDownBound.f k a0 a1 a2 a3 a4 a5) (laws_FnExactDownBound.f (k + 1) a0 a1 a2 a3 a4 a5) := by
  intro a0 a1 a2 a3 a4 a5 k
  unfold laws_FnExactDownBound.f
  repeat' first
      | (with_reducible exact impl_DownBound.mono _ _ _ _ _ _ _)
      | (with_reducible exact laws_eqMoveS.mono _ _ _)
      | (with_reducible exact laws_eqSide.mono _ _ _ _ _ _ _)
      | (with_reducible exact laws_toMoveS.mono _ _)
      | (with_reducible exact laws_toSide.mono _ _ _ _)
      | (with_reducible exact spec_DownBound.mono _ _ _ _ _ _ _)
      | (with_reducible exact LeO.refl _)
      | (with_reducible exact LeO.none _)
      | (with_reducible refine LeO.ite ?_ ?_)
      | (with_reducible refine LeO.bind ?_ (fun _ => ?_))
      | exact impl_DownBound.mono _ _ _ _ _ _ _
      | exact laws_eqMoveS.mono _ _ _
      | exact laws_eqSide.mono _ _ _ _ _ _ _
      | exact laws_toMoveS.mono _ _
      | exact laws_toSide.mono _ _ _ _
      | exact spec_DownBound.mono _ _ _ _ _ _ _
      | exact LeO.none _
      | refine LeO.ite ?_ ?_
      | refine LeO.bind ?_ (fun _ => ?_)
set_option maxHeartbeats 8000000 in
set_option maxRecDepth 100000 in
theorem laws_FnExactDownBound.calls (k : Nat) (A0_0 : Option Addr) (c0_0 : Nat) (l0_0 : List (S125)) (a0_1 : Int) (a0_2 : Int) (A1 : Option Addr) (c1 : Nat) (l1 : List (S105)) (a2 : Int) (a3 : Int) (r : Bool) (hrT : Aside0 (r = true)) (w : World) (hr0_0 : Kd.C k125 w A0_0 l0_0.length l0_0) (hc0_0 : l0_0.length ≤ c0_0) (hr1 : Kd.C k105 w A1 l1.length l1) (hc1 : l1.length ≤ c1) (h : laws_FnExactDownBound.f k l0_0 a0_1 a0_2 l1 a2 a3 = some r) :
    Calls Try.prog 12 #[.agg #[.slice A0_0 l0_0.length c0_0, .int .i64 a0_1, .int .i64 a0_2], .slice A1 l1.length c1, .int .i64 a2, .int .i64 a3] w fun e w' => e = .returned (.bool r) ∧ Below w.heap.size w w' := by
  have hu58 := Try.underlying58
  have hu33 := Try.underlying33
  have HR0_0 := Aside0.mk hr0_0
  have HC0_0 := Aside0.mk hc0_0
  clear hr0_0 hc0_0
  have HR1 := Aside0.mk hr1
  have HC1 := Aside0.mk hc1
  clear hr1 hc1
  have HB := Aside0.mk (Below.refl w.heap.size w)
  have H : ((laws_szSide.f l0_0 a0_1 a0_2 1048576).bind fun t616 => (if t616 < 0 then (some true) else ((laws_szMoveS.f l1 t616).bind fun t617 => (if t617 < 0 then (some true) else ((laws_toSide.f k l0_0 a0_1 a0_2).bind fun bt618 => ((laws_toMoveS.f k l1).bind fun t623 => ((spec_DownBound.f k bt618.1 bt618.2.1 bt618.2.2 t623 a2 a3).bind fun t626 => ((laws_toSide.f k l0_0 a0_1 a0_2).bind fun bt627 => ((laws_toMoveS.f k l1).bind fun t633 => ((impl_DownBound.f k bt627.1 bt627.2.1 bt627.2.2 t633 a2 a3).bind fun t636 => (if t636 = t626 then ((laws_toSide.f k l0_0 a0_1 a0_2).bind fun bt637 => ((laws_eqSide.f k bt627.1 bt627.2.1 bt627.2.2 bt637.1 bt637.2.1 bt637.2.2).bind fun t642 => (if t642 = true then ((laws_toMoveS.f k l1).bind fun t643 => ((laws_eqMoveS.f k t633 t643).bind fun t646 => (if t646 = true then (some true) else (some false)))) else (some false)))) else (some false)))))))))))) = some r := h
  clear h
  replace H := Option.bind_eq_some_iff.mp H
  obtain ⟨t616, A50, H⟩ := H
  replace H : (if t616 < 0 then (some true) else ((laws_szMoveS.f l1 t616).bind fun t617 => (if t617 < 0 then (some true) else ((laws_toSide.f k l0_0 a0_1 a0_2).bind fun bt618 => ((laws_toMoveS.f k l1).bind fun t623 => ((spec_DownBound.f k bt618.1 bt618.2.1 bt618.2.2 t623 a2 a3).bind fun t626 => ((laws_toSide.f k l0_0 a0_1 a0_2).bind fun bt627 => ((laws_toMoveS.f k l1).bind fun t633 => ((impl_DownBound.f k bt627.1 bt627.2.1 bt627.2.2 t633 a2 a3).bind fun t636 => (if t636 = t626 then ((laws_toSide.f k l0_0 a0_1 a0_2).bind fun bt637 => ((laws_eqSide.f k bt627.1 bt627.2.1 bt627.2.2 bt637.1 bt637.2.1 bt637.2.2).bind fun t642 => (if t642 = true then ((laws_toMoveS.f k l1).bind fun t643 => ((laws_eqMoveS.f k t633 t643).bind fun t646 => (if t646 = true then (some true) else (some false)))) else (some false)))) else (some false))))))))))) = some r := H
  have A5 := Aside0.mk A50
  clear A50
  by_cases c6 : t616 < 0
  · rw [if_pos c6] at H
    have c6b0 : decide (t616 < 0) = true := decide_eq_true c6
    clear c6
    obtain rfl := Option.some.inj H
    go_enter Try.func12, Try.ntmps12
    go_wp2_with (first | ((with_reducible refine gate_dst (N := 4) rfl ?_); refine box_event ?hg (N := 4) ?hd (cs := #[.slice A0_0 l0_0.length c0_0, .int .i64 a0_1, .int .i64 a0_2]) (t := 58) ?hr ?_; (case hd => rfl); (case hg => rfl); (case hr => first | (go_simp; done) | (go_simp; rfl)); intro gb615 hg w7 hbox hb; have n0_ := Aside0.mk (below_step (by repeat (first | (with_reducible first | exact HB.out | apply below_alloc | apply pw_below_drewN | apply below_drew1) | exact HB.out)) hb); have n1_ := Aside0.mk (hbox); have n2_ := Aside0.mk ((by rw [hg]; exact (below_size (by repeat (first | (with_reducible first | exact HB.out | apply below_alloc | apply pw_below_drewN | apply below_drew1) | exact HB.out))) : w.heap.size ≤ gb615)); have n3_ := Aside0.mk ((by rw [hg]; exact (below_size (by repeat (first | (with_reducible first | exact HB.out | apply below_alloc | apply pw_below_drewN | apply below_drew1) | exact HB.out))) : w.heap.size ≤ gb615)); clear HB; have HB := n0_; have BK615 := n1_; have GW615 := n2_; have GE615 := n3_; clear n0_ n1_ n2_ n3_; clear hb hbox hg; have hcz8_0 : w7.cell? ⟨gb615, 0, none⟩ = some (.slice A0_0 l0_0.length c0_0) := (blk_cell BK615.out 0).trans rfl; have hcz8_1 : w7.cell? ⟨gb615, 1, none⟩ = some (.int .i64 a0_1) := (blk_cell BK615.out 1).trans rfl; have hcz8_2 : w7.cell? ⟨gb615, 2, none⟩ = some (.int .i64 a0_2) := (blk_cell BK615.out 2).trans rfl; have hfz8_0 := blk_frozen BK615.out 0; have hfz8_1 := blk_frozen BK615.out 1; have hfz8_2 := blk_frozen BK615.out 2) | ((with_reducible refine gate_callee (f := 50) rfl ?_); refine goesL_ (some 16) rfl rfl Try.func50 (by kernel_rfl) rfl #[.agg #[.slice A0_0 l0_0.length c0_0, .int .i64 a0_1, .int .i64 a0_2], .int .i64 1048576] rfl (by (try simp only [List.map_toArray, List.map_cons, List.map_nil]); first | done | rfl | (simp only [List.length_drop, List.length_take]; rfl)) ?_; (with_reducible refine (laws_szSide.calls _ _ l0_0 a0_1 a0_2 1048576 t616 _ ?side1 ?side2 A5.out).mono ?_); (case side1 => repeat (first | exact (Kd.C_below HR0_0.out HB.out) | (with_reducible refine Kd.C_alloc ?_ _) | (with_reducible refine Kd.C_drewN ?_ _) | (with_reducible refine Kd.C_drew ?_))); (case side2 => exact HC0_0.out); rintro e w9 ⟨rfl, hb⟩; refine ⟨_, rfl, ?_⟩; have n0_ := Aside0.mk (blk_below (g := gb615) (o := .cells #[.slice A0_0 l0_0.length c0_0, .int .i64 a0_1, .int .i64 a0_2] 58 (0, 0)) (by (with_reducible repeat (first | refine blk_drewN ?_ _ | refine blk_drew ?_ | refine blk_alloc ?_ _)); exact BK615.out) hb); have n1_ := Aside0.mk (below_step (by repeat (first | (with_reducible first | exact HB.out | apply below_alloc | apply pw_below_drewN | apply below_drew1 | refine below_set ?_ GE615.out) | exact HB.out)) hb); clear BK615; clear HB; have BK615 := n0_; have HB := n1_; clear n0_ n1_; (try clear hb); (try clear hb2); (try clear hk); (try clear hi)))
    go_ret
    exact ⟨by first | rfl | (simp [errW_none, errW_some] <;> rfl) | (simp [*, errW_none, errW_some] <;> rfl), by repeat (first | (with_reducible first | exact HB.out | apply below_alloc | apply pw_below_drewN | apply below_drew1 | refine below_set ?_ GE615.out) | exact HB.out)⟩
  · rw [if_neg c6] at H
    have c6b0 : decide (t616 < 0) = false := decide_eq_false c6
    clear c6
    replace H := Option.bind_eq_some_iff.mp H
    obtain ⟨t617, A100, H⟩ := H
    replace H : (if t617 < 0 then (some true) else ((laws_toSide.f k l0_0 a0_1 a0_2).bind fun bt618 => ((laws_toMoveS.f k l1).bind fun t623 => ((spec_DownBound.f k bt618.1 bt618.2.1 bt618.2.2 t623 a2 a3).bind fun t626 => ((laws_toSide.f k l0_0 a0_1 a0_2).bind fun bt627 => ((laws_toMoveS.f k l1).bind fun t633 => ((impl_DownBound.f k bt627.1 bt627.2.1 bt627.2.2 t633 a2 a3).bind fun t636 => (if t636 = t626 then ((laws_toSide.f k l0_0 a0_1 a0_2).bind fun bt637 => ((laws_eqSide.f k bt627.1 bt627.2.1 bt627.2.2 bt637.1 bt637.2.1 bt637.2.2).bind fun t642 => (if t642 = true then ((laws_toMoveS.f k l1).bind fun t643 => ((laws_eqMoveS.f k t633 t643).bind fun t646 => (if t646 = true then (some true) else (some false)))) else (some false)))) else (some false))))))))) = some r := H
    have A10 := Aside0.mk A100
    clear A100
    by_cases c11 : t617 < 0
    · rw [if_pos c11] at H
      have c11b0 : decide (t617 < 0) = true := decide_eq_true c11
      clear c11
      obtain rfl := Option.some.inj H
      go_enter Try.func12, Try.ntmps12
      go_wp2_with (first | ((with_reducible refine gate_dst (N := 4) rfl ?_); refine box_event ?hg (N := 4) ?hd (cs := #[.slice A0_0 l0_0.length c0_0, .int .i64 a0_1, .int .i64 a0_2]) (t := 58) ?hr ?_; (case hd => rfl); (case hg => rfl); (case hr => first | (go_simp; done) | (go_simp; rfl)); intro gb615 hg w12 hbox hb; have n0_ := Aside0.mk (below_step (by repeat (first | (with_reducible first | exact HB.out | apply below_alloc | apply pw_below_drewN | apply below_drew1) | exact HB.out)) hb); have n1_ := Aside0.mk (hbox); have n2_ := Aside0.mk ((by rw [hg]; exact (below_size (by repeat (first | (with_reducible first | exact HB.out | apply below_alloc | apply pw_below_drewN | apply below_drew1) | exact HB.out))) : w.heap.size ≤ gb615)); have n3_ := Aside0.mk ((by rw [hg]; exact (below_size (by repeat (first | (with_reducible first | exact HB.out | apply below_alloc | apply pw_below_drewN | apply below_drew1) | exact HB.out))) : w.heap.size ≤ gb615)); clear HB; have HB := n0_; have BK615 := n1_; have GW615 := n2_; have GE615 := n3_; clear n0_ n1_ n2_ n3_; clear hb hbox hg; have hcz13_0 : w12.cell? ⟨gb615, 0, none⟩ = some (.slice A0_0 l0_0.length c0_0) := (blk_cell BK615.out 0).trans rfl; have hcz13_1 : w12.cell? ⟨gb615, 1, none⟩ = some (.int .i64 a0_1) := (blk_cell BK615.out 1).trans rfl; have hcz13_2 : w12.cell? ⟨gb615, 2, none⟩ = some (.int .i64 a0_2) := (blk_cell BK615.out 2).trans rfl; have hfz13_0 := blk_frozen BK615.out 0; have hfz13_1 := blk_frozen BK615.out 1; have hfz13_2 := blk_frozen BK615.out 2) | ((with_reducible refine gate_callee (f := 50) rfl ?_); refine goesL_ (some 16) rfl rfl Try.func50 (by kernel_rfl) rfl #[.agg #[.slice A0_0 l0_0.length c0_0, .int .i64 a0_1, .int .i64 a0_2], .int .i64 1048576] rfl (by (try simp only [List.map_toArray, List.map_cons, List.map_nil]); first | done | rfl | (simp only [List.length_drop, List.length_take]; rfl)) ?_; (with_reducible refine (laws_szSide.calls _ _ l0_0 a0_1 a0_2 1048576 t616 _ ?side1 ?side2 A5.out).mono ?_); (case side1 => repeat (first | exact (Kd.C_below HR0_0.out HB.out) | (with_reducible refine Kd.C_alloc ?_ _) | (with_reducible refine Kd.C_drewN ?_ _) | (with_reducible refine Kd.C_drew ?_))); (case side2 => exact HC0_0.out); rintro e w14 ⟨rfl, hb⟩; refine ⟨_, rfl, ?_⟩; have n0_ := Aside0.mk (blk_below (g := gb615) (o := .cells #[.slice A0_0 l0_0.length c0_0, .int .i64 a0_1, .int .i64 a0_2] 58 (0, 0)) (by (with_reducible repeat (first | refine blk_drewN ?_ _ | refine blk_drew ?_ | refine blk_alloc ?_ _)); exact BK615.out) hb); have n1_ := Aside0.mk (below_step (by repeat (first | (with_reducible first | exact HB.out | apply below_alloc | apply pw_below_drewN | apply below_drew1 | refine below_set ?_ GE615.out) | exact HB.out)) hb); clear BK615; clear HB; have BK615 := n0_; have HB := n1_; clear n0_ n1_; (try clear hb); (try clear hb2); (try clear hk); (try clear hi)) | ((with_reducible refine gate_callee (f := 28) rfl ?_); refine goesL_ (some 21) rfl rfl Try.func28 (by kernel_rfl) rfl #[.slice A1 l1.length c1, .int .i64 t616] rfl (by (try simp only [List.map_toArray, List.map_cons, List.map_nil]); first | done | rfl | (simp only [List.length_drop, List.length_take]; rfl)) ?_; (with_reducible refine (laws_szMoveS.calls _ _ l1 t616 t617 _ ?side1 ?side2 A10.out).mono ?_); (case side1 => repeat (first | exact (Kd.C_below HR1.out HB.out) | (with_reducible refine Kd.C_alloc ?_ _) | (with_reducible refine Kd.C_drewN ?_ _) | (with_reducible refine Kd.C_drew ?_))); (case side2 => exact HC1.out); rintro e w' ⟨rfl, ⟨nd, rfl⟩⟩; refine ⟨_, rfl, ?_⟩))
      go_ret
      exact ⟨by first | rfl | (simp [errW_none, errW_some] <;> rfl) | (simp [*, errW_none, errW_some] <;> rfl), by repeat (first | (with_reducible first | exact HB.out | apply below_alloc | apply pw_below_drewN | apply below_drew1 | refine below_set ?_ GE615.out) | exact HB.out)⟩
    · rw [if_neg c11] at H
      have c11b0 : decide (t617 < 0) = false := decide_eq_false c11
      clear c11
      replace H := Option.bind_eq_some_iff.mp H
      obtain ⟨⟨t618, t621, t622⟩, A150, H⟩ := H
      replace H : ((laws_toMoveS.f k l1).bind fun t623 => ((spec_DownBound.f k t618 t621 t622 t623 a2 a3).bind fun t626 => ((laws_toSide.f k l0_0 a0_1 a0_2).bind fun bt627 => ((laws_toMoveS.f k l1).bind fun t633 => ((impl_DownBound.f k bt627.1 bt627.2.1 bt627.2.2 t633 a2 a3).bind fun t636 => (if t636 = t626 then ((laws_toSide.f k l0_0 a0_1 a0_2).bind fun bt637 => ((laws_eqSide.f k bt627.1 bt627.2.1 bt627.2.2 bt637.1 bt637.2.1 bt637.2.2).bind fun t642 => (if t642 = true then ((laws_toMoveS.f k l1).bind fun t643 => ((laws_eqMoveS.f k t633 t643).bind fun t646 => (if t646 = true then (some true) else (some false)))) else (some false)))) else (some false))))))) = some r := H
      have A15 := Aside0.mk A150
      clear A150
      replace H := Option.bind_eq_some_iff.mp H
      obtain ⟨t623, A160, H⟩ := H
      replace H : ((spec_DownBound.f k t618 t621 t622 t623 a2 a3).bind fun t626 => ((laws_toSide.f k l0_0 a0_1 a0_2).bind fun bt627 => ((laws_toMoveS.f k l1).bind fun t633 => ((impl_DownBound.f k bt627.1 bt627.2.1 bt627.2.2 t633 a2 a3).bind fun t636 => (if t636 = t626 then ((laws_toSide.f k l0_0 a0_1 a0_2).bind fun bt637 => ((laws_eqSide.f k bt627.1 bt627.2.1 bt627.2.2 bt637.1 bt637.2.1 bt637.2.2).bind fun t642 => (if t642 = true then ((laws_toMoveS.f k l1).bind fun t643 => ((laws_eqMoveS.f k t633 t643).bind fun t646 => (if t646 = true then (some true) else (some false)))) else (some false)))) else (some false)))))) = some r := H
      have A16 := Aside0.mk A160
      clear A160
      replace H := Option.bind_eq_some_iff.mp H
      obtain ⟨t626, A170, H⟩ := H
      replace H : ((laws_toSide.f k l0_0 a0_1 a0_2).bind fun bt627 => ((laws_toMoveS.f k l1).bind fun t633 => ((impl_DownBound.f k bt627.1 bt627.2.1 bt627.2.2 t633 a2 a3).bind fun t636 => (if t636 = t626 then ((laws_toSide.f k l0_0 a0_1 a0_2).bind fun bt637 => ((laws_eqSide.f k bt627.1 bt627.2.1 bt627.2.2 bt637.1 bt637.2.1 bt637.2.2).bind fun t642 => (if t642 = true then ((laws_toMoveS.f k l1).bind fun t643 => ((laws_eqMoveS.f k t633 t643).bind fun t646 => (if t646 = true then (some true) else (some false)))) else (some false)))) else (some false))))) = some r := H
      have A17 := Aside0.mk A170
      clear A170
      replace H := Option.bind_eq_some_iff.mp H
      obtain ⟨⟨t627, t630, t631⟩, A180, H⟩ := H
      replace H : ((laws_toMoveS.f k l1).bind fun t633 => ((impl_DownBound.f k t627 t630 t631 t633 a2 a3).bind fun t636 => (if t636 = t626 then ((laws_toSide.f k l0_0 a0_1 a0_2).bind fun bt637 => ((laws_eqSide.f k t627 t630 t631 bt637.1 bt637.2.1 bt637.2.2).bind fun t642 => (if t642 = true then ((laws_toMoveS.f k l1).bind fun t643 => ((laws_eqMoveS.f k t633 t643).bind fun t646 => (if t646 = true then (some true) else (some false)))) else (some false)))) else (some false)))) = some r := H
      have A18 := Aside0.mk A180
      clear A180
      replace H := Option.bind_eq_some_iff.mp H
      obtain ⟨t633, A190, H⟩ := H
      replace H : ((impl_DownBound.f k t627 t630 t631 t633 a2 a3).bind fun t636 => (if t636 = t626 then ((laws_toSide.f k l0_0 a0_1 a0_2).bind fun bt637 => ((laws_eqSide.f k t627 t630 t631 bt637.1 bt637.2.1 bt637.2.2).bind fun t642 => (if t642 = true then ((laws_toMoveS.f k l1).bind fun t643 => ((laws_eqMoveS.f k t633 t643).bind fun t646 => (if t646 = true then (some true) else (some false)))) else (some false)))) else (some false))) = some r := H
      have A19 := Aside0.mk A190
      clear A190
      replace H := Option.bind_eq_some_iff.mp H
      obtain ⟨t636, A200, H⟩ := H
      replace H : (if t636 = t626 then ((laws_toSide.f k l0_0 a0_1 a0_2).bind fun bt637 => ((laws_eqSide.f k t627 t630 t631 bt637.1 bt637.2.1 bt637.2.2).bind fun t642 => (if t642 = true then ((laws_toMoveS.f k l1).bind fun t643 => ((laws_eqMoveS.f k t633 t643).bind fun t646 => (if t646 = true then (some true) else (some false)))) else (some false)))) else (some false)) = some r := H
      have A20 := Aside0.mk A200
      clear A200
      by_cases c21 : t636 = t626
      · rw [if_pos c21] at H
        have c21b0 : (t636 == t626) = true := beq_iff_eq.mpr c21
        have c21b1 : (t636 != t626) = false := bne_eq_false_iff_eq.mpr c21
        clear c21
        replace H := Option.bind_eq_some_iff.mp H
        obtain ⟨⟨t637, t640, t641⟩, A220, H⟩ := H
        replace H : ((laws_eqSide.f k t627 t630 t631 t637 t640 t641).bind fun t642 => (if t642 = true then ((laws_toMoveS.f k l1).bind fun t643 => ((laws_eqMoveS.f k t633 t643).bind fun t646 => (if t646 = true then (some true) else (some false)))) else (some false))) = some r := H
        have A22 := Aside0.mk A220
        clear A220
        replace H := Option.bind_eq_some_iff.mp H
        obtain ⟨t642, A230, H⟩ := H
        replace H : (if t642 = true then ((laws_toMoveS.f k l1).bind fun t643 => ((laws_eqMoveS.f k t633 t643).bind fun t646 => (if t646 = true then (some true) else (some false)))) else (some false)) = some r := H
        have A23 := Aside0.mk A230
        clear A230
        by_cases c24 : t642 = true
        · subst c24
          have H1 : ((laws_toMoveS.f k l1).bind fun t643 => ((laws_eqMoveS.f k t633 t643).bind fun t646 => (if t646 = true then (some true) else (some false)))) = some r := by rw [if_pos rfl] at H; exact H
          clear H
          have H := H1
          clear H1
          replace H := Option.bind_eq_some_iff.mp H
          obtain ⟨t643, A250, H⟩ := H
          replace H : ((laws_eqMoveS.f k t633 t643).bind fun t646 => (if t646 = true then (some true) else (some false))) = some r := H
          have A25 := Aside0.mk A250
          clear A250
          replace H := Option.bind_eq_some_iff.mp H
          obtain ⟨t646, A260, H⟩ := H
          replace H : (if t646 = true then (some true) else (some false)) = some r := H
          have A26 := Aside0.mk A260
          clear A260
          by_cases c27 : t646 = true
          · subst c27
            have H1 : (some true) = some r := by rw [if_pos rfl] at H; exact H
            clear H
            have H := H1
            clear H1
            obtain rfl := Option.some.inj H
            go_enter Try.func12, Try.ntmps12
            try go_wp2_with (first | ((with_reducible refine gate_dst (N := 4) rfl ?_); refine box_event ?hg (N := 4) ?hd (cs := #[.slice A0_0 l0_0.length c0_0, .int .i64 a0_1, .int .i64 a0_2]) (t := 58) ?hr ?_; (case hd => rfl); (case hg => rfl); (case hr => first | (go_simp; done) | (go_simp; rfl)); intro gb615 hg w28 hbox hb; have n0_ := Aside0.mk (below_step (by repeat (first | (with_reducible first | exact HB.out | apply below_alloc | apply pw_below_drewN | apply below_drew1) | exact HB.out)) hb); have n1_ := Aside0.mk (hbox); have n2_ := Aside0.mk ((by rw [hg]; exact (below_size (by repeat (first | (with_reducible first | exact HB.out | apply below_alloc | apply pw_below_drewN | apply below_drew1) | exact HB.out))) : w.heap.size ≤ gb615)); have n3_ := Aside0.mk ((by rw [hg]; exact (below_size (by repeat (first | (with_reducible first | exact HB.out | apply below_alloc | apply pw_below_drewN | apply below_drew1) | exact HB.out))) : w.heap.size ≤ gb615)); clear HB; have HB := n0_; have BK615 := n1_; have GW615 := n2_; have GE615 := n3_; clear n0_ n1_ n2_ n3_; clear hb hbox hg; have hcz29_0 : w28.cell? ⟨gb615, 0, none⟩ = some (.slice A0_0 l0_0.length c0_0) := (blk_cell BK615.out 0).trans rfl; have hcz29_1 : w28.cell? ⟨gb615, 1, none⟩ = some (.int .i64 a0_1) := (blk_cell BK615.out 1).trans rfl; have hcz29_2 : w28.cell? ⟨gb615, 2, none⟩ = some (.int .i64 a0_2) := (blk_cell BK615.out 2).trans rfl; have hfz29_0 := blk_frozen BK615.out 0; have hfz29_1 := blk_frozen BK615.out 1; have hfz29_2 := blk_frozen BK615.out 2) | ((with_reducible refine gate_callee (f := 50) rfl ?_); refine goesL_ (some 16) rfl rfl Try.func50 (by kernel_rfl) rfl #[.agg #[.slice A0_0 l0_0.length c0_0, .int .i64 a0_1, .int .i64 a0_2], .int .i64 1048576] rfl (by (try simp only [List.map_toArray, List.map_cons, List.map_nil]); first | done | rfl | (simp only [List.length_drop, List.length_take]; rfl)) ?_; (with_reducible refine (laws_szSide.calls _ _ l0_0 a0_1 a0_2 1048576 t616 _ ?side1 ?side2 A5.out).mono ?_); (case side1 => repeat (first | exact (Kd.C_below HR0_0.out HB.out) | (with_reducible refine Kd.C_alloc ?_ _) | (with_reducible refine Kd.C_drewN ?_ _) | (with_reducible refine Kd.C_drew ?_))); (case side2 => exact HC0_0.out); rintro e w30 ⟨rfl, hb⟩; refine ⟨_, rfl, ?_⟩; have n0_ := Aside0.mk (blk_below (g := gb615) (o := .cells #[.slice A0_0 l0_0.length c0_0, .int .i64 a0_1, .int .i64 a0_2] 58 (0, 0)) (by (with_reducible repeat (first | refine blk_drewN ?_ _ | refine blk_drew ?_ | refine blk_alloc ?_ _)); exact BK615.out) hb); have n1_ := Aside0.mk (below_step (by repeat (first | (with_reducible first | exact HB.out | apply below_alloc | apply pw_below_drewN | apply below_drew1 | refine below_set ?_ GE615.out) | exact HB.out)) hb); clear BK615; clear HB; have BK615 := n0_; have HB := n1_; clear n0_ n1_; (try clear hb); (try clear hb2); (try clear hk); (try clear hi)) | ((with_reducible refine gate_callee (f := 28) rfl ?_); refine goesL_ (some 21) rfl rfl Try.func28 (by kernel_rfl) rfl #[.slice A1 l1.length c1, .int .i64 t616] rfl (by (try simp only [List.map_toArray, List.map_cons, List.map_nil]); first | done | rfl | (simp only [List.length_drop, List.length_take]; rfl)) ?_; (with_reducible refine (laws_szMoveS.calls _ _ l1 t616 t617 _ ?side1 ?side2 A10.out).mono ?_); (case side1 => repeat (first | exact (Kd.C_below HR1.out HB.out) | (with_reducible refine Kd.C_alloc ?_ _) | (with_reducible refine Kd.C_drewN ?_ _) | (with_reducible refine Kd.C_drew ?_))); (case side2 => exact HC1.out); rintro e w' ⟨rfl, ⟨nd, rfl⟩⟩; refine ⟨_, rfl, ?_⟩; (try (rw [drewN_self w30]; generalize hq_ : World.drewN w30 _ = w30; have n0_ : Aside0 (w30.heap[gb615]? = some (.cells #[.slice A0_0 l0_0.length c0_0, .int .i64 a0_1, .int .i64 a0_2] 58 (0, 0))) := ⟨by rw [← hq_]; exact (by (with_reducible repeat (first | refine blk_drewN ?_ _ | refine blk_drew ?_ | refine blk_alloc ?_ _)); exact BK615.out)⟩; have n1_ : Aside0 (Below w.heap.size w w30) := ⟨by rw [← hq_]; exact (by repeat (first | (with_reducible first | exact HB.out | apply below_alloc | apply pw_below_drewN | apply below_drew1 | refine below_set ?_ GE615.out) | exact HB.out))⟩; clear BK615 HB hq_; have BK615 := n0_; have HB := n1_; clear n0_ n1_)); have hcz31_0 : w30.cell? ⟨gb615, 0, none⟩ = some (.slice A0_0 l0_0.length c0_0) := (blk_cell BK615.out 0).trans rfl; have hcz31_1 : w30.cell? ⟨gb615, 1, none⟩ = some (.int .i64 a0_1) := (blk_cell BK615.out 1).trans rfl; have hcz31_2 : w30.cell? ⟨gb615, 2, none⟩ = some (.int .i64 a0_2) := (blk_cell BK615.out 2).trans rfl; have hfz31_0 := blk_frozen BK615.out 0; have hfz31_1 := blk_frozen BK615.out 1; have hfz31_2 := blk_frozen BK615.out 2) | ((with_reducible refine gate_callee (f := 51) rfl ?_); refine goesL_ (some 25) rfl rfl Try.func51 (by kernel_rfl) rfl #[.agg #[.slice A0_0 l0_0.length c0_0, .int .i64 a0_1, .int .i64 a0_2]] rfl (by (try simp only [List.map_toArray, List.map_cons, List.map_nil]); first | done | rfl | (simp only [List.length_drop, List.length_take]; rfl)) ?_; (with_reducible refine (laws_toSide.calls k _ _ l0_0 a0_1 a0_2 t618 t621 t622 _ ?side1 ?side2 A15.out).mono ?_); (case side1 => repeat (first | exact (Kd.C_below HR0_0.out HB.out) | (with_reducible refine Kd.C_alloc ?_ _) | (with_reducible refine Kd.C_drewN ?_ _) | (with_reducible refine Kd.C_drew ?_))); (case side2 => exact HC0_0.out); rintro e w32 ⟨v619, rfl, ho0, hb⟩; refine ⟨_, rfl, ?_⟩; have n0_ := Aside0.mk (Kd.R_lower ho0 (below_size (by repeat (first | (with_reducible first | exact HB.out | apply below_alloc | apply pw_below_drewN | apply below_drew1 | refine below_set ?_ GE615.out) | exact HB.out)))); have n1_ := Aside0.mk (blk_below (g := gb615) (o := .cells #[.slice A0_0 l0_0.length c0_0, .int .i64 a0_1, .int .i64 a0_2] 58 (0, 0)) (by (with_reducible repeat (first | refine blk_drewN ?_ _ | refine blk_drew ?_ | refine blk_alloc ?_ _)); exact BK615.out) hb); have n2_ := Aside0.mk (below_step (by repeat (first | (with_reducible first | exact HB.out | apply below_alloc | apply pw_below_drewN | apply below_drew1 | refine below_set ?_ GE615.out) | exact HB.out)) hb); clear BK615; clear HB; have HO620 := n0_; have BK615 := n1_; have HB := n2_; clear n0_ n1_ n2_; (try clear hb); (try clear hb2); (try clear hk); (try clear hi); (try clear ho0)) | ((with_reducible refine gate_callee (f := 30) rfl ?_); refine goesL_ (some 27) rfl rfl Try.func30 (by kernel_rfl) rfl #[.slice A1 l1.length c1] rfl (by (try simp only [List.map_toArray, List.map_cons, List.map_nil]); first | done | rfl | (simp only [List.length_drop, List.length_take]; rfl)) ?_; (with_reducible refine (laws_toMoveS.calls k _ _ l1 t623 _ ?side1 ?side2 A16.out).mono ?_); (case side1 => repeat (first | exact (Kd.C_below HR1.out HB.out) | (with_reducible refine Kd.C_alloc ?_ _) | (with_reducible refine Kd.C_drewN ?_ _) | (with_reducible refine Kd.C_drew ?_))); (case side2 => exact HC1.out); rintro e w33 ⟨v624, rfl, ho0, hb⟩; refine ⟨_, rfl, ?_⟩; have n0_ := Aside0.mk (Kd.R_below (by (with_reducible repeat (first | apply Kd.R_alloc | apply Kd.R_drewN | apply Kd.R_drew)); exact HO620.out) hb); have n1_ := Aside0.mk (Kd.R_lower ho0 (below_size (by repeat (first | (with_reducible first | exact HB.out | apply below_alloc | apply pw_below_drewN | apply below_drew1 | refine below_set ?_ GE615.out) | exact HB.out)))); have n2_ := Aside0.mk (blk_below (g := gb615) (o := .cells #[.slice A0_0 l0_0.length c0_0, .int .i64 a0_1, .int .i64 a0_2] 58 (0, 0)) (by (with_reducible repeat (first | refine blk_drewN ?_ _ | refine blk_drew ?_ | refine blk_alloc ?_ _)); exact BK615.out) hb); have n3_ := Aside0.mk (below_step (by repeat (first | (with_reducible first | exact HB.out | apply below_alloc | apply pw_below_drewN | apply below_drew1 | refine below_set ?_ GE615.out) | exact HB.out)) hb); clear HO620; clear BK615; clear HB; have HO620 := n0_; have HO625 := n1_; have BK615 := n2_; have HB := n3_; clear n0_ n1_ n2_ n3_; (try clear hb); (try clear hb2); (try clear hk); (try clear hi); (try clear ho0); obtain ⟨Ao34, co34, eo34⟩ := Kd.R_slice HO620.out; subst eo34; obtain ⟨Ao35, co35, eo35⟩ := Kd.R_slice HO625.out; subst eo35) | ((with_reducible refine gate_callee (f := 27) rfl ?_); refine goesL_ (some 30) rfl rfl Try.func27 (by kernel_rfl) rfl #[.agg #[.slice Ao34 t618.length co34, .int .i64 t621, .int .i64 t622], .slice Ao35 t623.length co35, .int .i64 a2, .int .i64 a3] rfl (by (try simp only [List.map_toArray, List.map_cons, List.map_nil]); first | done | rfl | (simp only [List.length_drop, List.length_take]; rfl)) ?_; (with_reducible refine (spec_DownBound.calls k _ _ t618 t621 t622 _ _ t623 a2 a3 t626 _ ?side1 ?side2 ?side3 ?side4 A17.out).mono ?_); (case side1 => repeat (first | exact (Kd.R_reads' HO620.out).2.2 | (with_reducible refine Kd.C_alloc ?_ _) | (with_reducible refine Kd.C_drewN ?_ _) | (with_reducible refine Kd.C_drew ?_))); (case side2 => exact (Kd.R_reads' HO620.out).2.1); (case side3 => repeat (first | exact (Kd.R_reads' HO625.out).2.2 | (with_reducible refine Kd.C_alloc ?_ _) | (with_reducible refine Kd.C_drewN ?_ _) | (with_reducible refine Kd.C_drew ?_))); (case side4 => exact (Kd.R_reads' HO625.out).2.1); rintro e w36 ⟨rfl, hb⟩; refine ⟨_, rfl, ?_⟩; have n0_ := Aside0.mk (Kd.R_below (by (with_reducible repeat (first | apply Kd.R_alloc | apply Kd.R_drewN | apply Kd.R_drew)); exact HO620.out) hb); have n1_ := Aside0.mk (Kd.R_below (by (with_reducible repeat (first | apply Kd.R_alloc | apply Kd.R_drewN | apply Kd.R_drew)); exact HO625.out) hb); have n2_ := Aside0.mk (blk_below (g := gb615) (o := .cells #[.slice A0_0 l0_0.length c0_0, .int .i64 a0_1, .int .i64 a0_2] 58 (0, 0)) (by (with_reducible repeat (first | refine blk_drewN ?_ _ | refine blk_drew ?_ | refine blk_alloc ?_ _)); exact BK615.out) hb); have n3_ := Aside0.mk (below_step (by repeat (first | (with_reducible first | exact HB.out | apply below_alloc | apply pw_below_drewN | apply below_drew1 | refine below_set ?_ GE615.out) | exact HB.out)) hb); clear HO620; clear HO625; clear BK615; clear HB; have HO620 := n0_; have HO625 := n1_; have BK615 := n2_; have HB := n3_; clear n0_ n1_ n2_ n3_; (try clear hb); (try clear hb2); (try clear hk); (try clear hi); have hcz37_0 : w36.cell? ⟨gb615, 0, none⟩ = some (.slice A0_0 l0_0.length c0_0) := (blk_cell BK615.out 0).trans rfl; have hcz37_1 : w36.cell? ⟨gb615, 1, none⟩ = some (.int .i64 a0_1) := (blk_cell BK615.out 1).trans rfl; have hcz37_2 : w36.cell? ⟨gb615, 2, none⟩ = some (.int .i64 a0_2) := (blk_cell BK615.out 2).trans rfl; have hfz37_0 := blk_frozen BK615.out 0; have hfz37_1 := blk_frozen BK615.out 1; have hfz37_2 := blk_frozen BK615.out 2) | ((with_reducible refine gate_callee (f := 51) rfl ?_); refine goesL_ (some 32) rfl rfl Try.func51 (by kernel_rfl) rfl #[.agg #[.slice A0_0 l0_0.length c0_0, .int .i64 a0_1, .int .i64 a0_2]] rfl (by (try simp only [List.map_toArray, List.map_cons, List.map_nil]); first | done | rfl | (simp only [List.length_drop, List.length_take]; rfl)) ?_; (with_reducible refine (laws_toSide.calls k _ _ l0_0 a0_1 a0_2 t627 t630 t631 _ ?side1 ?side2 A18.out).mono ?_); (case side1 => repeat (first | exact (Kd.C_below HR0_0.out HB.out) | (with_reducible refine Kd.C_alloc ?_ _) | (with_reducible refine Kd.C_drewN ?_ _) | (with_reducible refine Kd.C_drew ?_))); (case side2 => exact HC0_0.out); rintro e w38 ⟨v628, rfl, ho0, hb⟩; refine ⟨_, rfl, ?_⟩; have n0_ := Aside0.mk (Kd.R_elder' (by (with_reducible repeat (first | apply Kd.R_alloc | apply Kd.R_drewN | apply Kd.R_drew)); exact HO620.out) (Kd.R_base ho0) hb); have n1_ := Aside0.mk (Kd.R_below (by (with_reducible repeat (first | apply Kd.R_alloc | apply Kd.R_drewN | apply Kd.R_drew)); exact HO625.out) hb); have n2_ := Aside0.mk (Kd.R_lower (Kd.R_new' ho0 (Kd.R_lt (by (with_reducible repeat (first | apply Kd.R_alloc | apply Kd.R_drewN | apply Kd.R_drew)); exact HO620.out))) (below_size (by repeat (first | (with_reducible first | exact HB.out | apply below_alloc | apply pw_below_drewN | apply below_drew1 | refine below_set ?_ GE615.out) | exact HB.out)))); have n3_ := Aside0.mk (blk_below (g := gb615) (o := .cells #[.slice A0_0 l0_0.length c0_0, .int .i64 a0_1, .int .i64 a0_2] 58 (0, 0)) (by (with_reducible repeat (first | refine blk_drewN ?_ _ | refine blk_drew ?_ | refine blk_alloc ?_ _)); exact BK615.out) hb); have n4_ := Aside0.mk (below_step (by repeat (first | (with_reducible first | exact HB.out | apply below_alloc | apply pw_below_drewN | apply below_drew1 | refine below_set ?_ GE615.out) | exact HB.out)) hb); clear HO620; clear HO625; clear BK615; clear HB; have HO620 := n0_; have HO625 := n1_; have HO629 := n2_; have BK615 := n3_; have HB := n4_; clear n0_ n1_ n2_ n3_ n4_; (try clear hb); (try clear hb2); (try clear hk); (try clear hi); (try clear ho0)) | ((with_reducible refine gate_dst (N := 11) rfl ?_); refine box_event ?hg (N := 11) ?hd (cs := #[.slice none 0 0, .int .i64 0, .int .i64 0]) (t := 33) ?hr ?_; (case hd => rfl); (case hg => rfl); (case hr => first | (go_simp; done) | (go_simp; rfl)); intro gb632 hg w39 hbox hb; have n0_ := Aside0.mk (Kd.R_below (by (with_reducible repeat (first | apply Kd.R_alloc | apply Kd.R_drewN | apply Kd.R_drew)); exact HO620.out) hb); have n1_ := Aside0.mk (Kd.R_below (by (with_reducible repeat (first | apply Kd.R_alloc | apply Kd.R_drewN | apply Kd.R_drew)); exact HO625.out) hb); have n2_ := Aside0.mk (Kd.R_below (by (with_reducible repeat (first | apply Kd.R_alloc | apply Kd.R_drewN | apply Kd.R_drew)); exact HO629.out) hb); have n3_ := Aside0.mk (blk_below (g := gb615) (o := .cells #[.slice A0_0 l0_0.length c0_0, .int .i64 a0_1, .int .i64 a0_2] 58 (0, 0)) (by (with_reducible repeat (first | refine blk_drewN ?_ _ | refine blk_drew ?_ | refine blk_alloc ?_ _)); exact BK615.out) hb); have n4_ := Aside0.mk (below_step (by repeat (first | (with_reducible first | exact HB.out | apply below_alloc | apply pw_below_drewN | apply below_drew1 | refine below_set ?_ GE615.out) | exact HB.out)) hb); have n5_ := Aside0.mk (hbox); have n6_ := Aside0.mk ((by rw [hg]; exact (below_size (by repeat (first | (with_reducible first | exact HB.out | apply below_alloc | apply pw_below_drewN | apply below_drew1 | refine below_set ?_ GE615.out) | exact HB.out))) : w.heap.size ≤ gb632)); have n7_ := Aside0.mk ((by rw [hg]; exact (below_size (by repeat (first | (with_reducible first | exact HB.out | apply below_alloc | apply pw_below_drewN | apply below_drew1 | refine below_set ?_ GE615.out) | exact HB.out))) : w.heap.size ≤ gb632)); have n8_ := Aside0.mk ((by rw [hg]; exact Nat.ne_of_lt (blk_lt (g := gb615) (o := .cells #[.slice A0_0 l0_0.length c0_0, .int .i64 a0_1, .int .i64 a0_2] 58 (0, 0)) (by (with_reducible repeat (first | refine blk_drewN ?_ _ | refine blk_drew ?_ | refine blk_alloc ?_ _)); exact BK615.out)) : gb615 ≠ gb632)); have n9_ := Aside0.mk ((by rw [hg]; exact Nat.ne_of_gt (blk_lt (g := gb615) (o := .cells #[.slice A0_0 l0_0.length c0_0, .int .i64 a0_1, .int .i64 a0_2] 58 (0, 0)) (by (with_reducible repeat (first | refine blk_drewN ?_ _ | refine blk_drew ?_ | refine blk_alloc ?_ _)); exact BK615.out)) : gb632 ≠ gb615)); clear HO620; clear HO625; clear HO629; clear BK615; clear HB; have HO620 := n0_; have HO625 := n1_; have HO629 := n2_; have BK615 := n3_; have HB := n4_; have BK632 := n5_; have GW632 := n6_; have GE632 := n7_; have NB615_632 := n8_; have NB632_615 := n9_; clear n0_ n1_ n2_ n3_ n4_ n5_ n6_ n7_ n8_ n9_; clear hb hbox hg; obtain ⟨Ao40, co40, eo40⟩ := Kd.R_slice HO629.out; subst eo40; have hnb41 := NB632_615.out; have hnc41 := NB615_632.out; have hcz42_0 : w39.cell? ⟨gb632, 0, none⟩ = some (.slice none 0 0) := (blk_cell BK632.out 0).trans rfl; have hcz42_1 : w39.cell? ⟨gb632, 1, none⟩ = some (.int .i64 0) := (blk_cell BK632.out 1).trans rfl; have hcz42_2 : w39.cell? ⟨gb632, 2, none⟩ = some (.int .i64 0) := (blk_cell BK632.out 2).trans rfl; have hfz42_0 := blk_frozen BK632.out 0; have hfz42_1 := blk_frozen BK632.out 1; have hfz42_2 := blk_frozen BK632.out 2) | ((with_reducible refine gate_callee (f := 30) rfl ?_); refine goesL_ (some 34) rfl rfl Try.func30 (by kernel_rfl) rfl #[.slice A1 l1.length c1] rfl (by (try simp only [List.map_toArray, List.map_cons, List.map_nil]); first | done | rfl | (simp only [List.length_drop, List.length_take]; rfl)) ?_; (with_reducible refine (laws_toMoveS.calls k _ _ l1 t633 _ ?side1 ?side2 A19.out).mono ?_); (case side1 => exact Kd.C_below HR1.out (by repeat (first | (with_reducible first | exact HB.out | apply below_alloc | apply pw_below_drewN | apply below_drew1 | refine below_set ?_ GE615.out | refine below_set ?_ GE632.out) | exact HB.out))); (case side2 => exact HC1.out); rintro e w43 ⟨v634, rfl, ho0, hb⟩; refine ⟨_, rfl, ?_⟩; have n0_ := Aside0.mk (Kd.R_below (by (with_reducible repeat (first | apply Kd.R_alloc | apply Kd.R_drewN | apply Kd.R_drew)); exact (Kd.R_mono (Kd.R_far (p := ⟨gb632, 2, none⟩) (Kd.R_far (p := ⟨gb632, 1, none⟩) (Kd.R_far (p := ⟨gb632, 0, none⟩) (Kd.R_types HO620.out BK632.out (by decide)) (fun _ hk => hk.2) (.slice Ao40 t627.length co40)) (fun _ hk => hk.2) (.int .i64 t630)) (fun _ hk => hk.2) (.int .i64 t631)) (fun _ h_ => h_.1))) hb); have n1_ := Aside0.mk (Kd.R_elder' (by (with_reducible repeat (first | apply Kd.R_alloc | apply Kd.R_drewN | apply Kd.R_drew)); exact (Kd.R_mono (Kd.R_far (p := ⟨gb632, 2, none⟩) (Kd.R_far (p := ⟨gb632, 1, none⟩) (Kd.R_far (p := ⟨gb632, 0, none⟩) (Kd.R_types HO625.out BK632.out (by decide)) (fun _ hk => hk.2) (.slice Ao40 t627.length co40)) (fun _ hk => hk.2) (.int .i64 t630)) (fun _ hk => hk.2) (.int .i64 t631)) (fun _ h_ => h_.1))) (Kd.R_base ho0) hb); have n2_ := Aside0.mk (Kd.R_below (by (with_reducible repeat (first | apply Kd.R_alloc | apply Kd.R_drewN | apply Kd.R_drew)); exact (Kd.R_mono (Kd.R_far (p := ⟨gb632, 2, none⟩) (Kd.R_far (p := ⟨gb632, 1, none⟩) (Kd.R_far (p := ⟨gb632, 0, none⟩) (Kd.R_types HO629.out BK632.out (by decide)) (fun _ hk => hk.2) (.slice Ao40 t627.length co40)) (fun _ hk => hk.2) (.int .i64 t630)) (fun _ hk => hk.2) (.int .i64 t631)) (fun _ h_ => h_.1))) hb); have n3_ := Aside0.mk (Kd.R_lower (Kd.R_new' ho0 (Kd.R_lt (by (with_reducible repeat (first | apply Kd.R_alloc | apply Kd.R_drewN | apply Kd.R_drew)); exact (Kd.R_mono (Kd.R_far (p := ⟨gb632, 2, none⟩) (Kd.R_far (p := ⟨gb632, 1, none⟩) (Kd.R_far (p := ⟨gb632, 0, none⟩) (Kd.R_types HO625.out BK632.out (by decide)) (fun _ hk => hk.2) (.slice Ao40 t627.length co40)) (fun _ hk => hk.2) (.int .i64 t630)) (fun _ hk => hk.2) (.int .i64 t631)) (fun _ h_ => h_.1))))) (below_size (by repeat (first | (with_reducible first | exact HB.out | apply below_alloc | apply pw_below_drewN | apply below_drew1 | refine below_set ?_ GE615.out | refine below_set ?_ GE632.out) | exact HB.out)))); have n4_ := Aside0.mk (blk_below (g := gb615) (o := .cells #[.slice A0_0 l0_0.length c0_0, .int .i64 a0_1, .int .i64 a0_2] 58 (0, 0)) (by (with_reducible repeat (first | refine blk_drewN ?_ _ | refine blk_drew ?_ | refine blk_alloc ?_ _)); refine blk_far ?_ NB615_632.out _; (with_reducible repeat (first | refine blk_drewN ?_ _ | refine blk_drew ?_ | refine blk_alloc ?_ _)); refine blk_far ?_ NB615_632.out _; (with_reducible repeat (first | refine blk_drewN ?_ _ | refine blk_drew ?_ | refine blk_alloc ?_ _)); refine blk_far ?_ NB615_632.out _; (with_reducible repeat (first | refine blk_drewN ?_ _ | refine blk_drew ?_ | refine blk_alloc ?_ _)); exact BK615.out) hb); have n5_ := Aside0.mk (blk_below (g := gb632) (o := .cells #[.slice Ao40 t627.length co40, .int .i64 t630, .int .i64 t631] 33 (0, 0)) (by (with_reducible repeat (first | refine blk_drewN ?_ _ | refine blk_drew ?_ | refine blk_alloc ?_ _)); refine blk_put (cs := #[.slice Ao40 t627.length co40, .int .i64 t630, .int .i64 0]) ?_ 2 _ rfl; (with_reducible repeat (first | refine blk_drewN ?_ _ | refine blk_drew ?_ | refine blk_alloc ?_ _)); refine blk_put (cs := #[.slice Ao40 t627.length co40, .int .i64 0, .int .i64 0]) ?_ 1 _ rfl; (with_reducible repeat (first | refine blk_drewN ?_ _ | refine blk_drew ?_ | refine blk_alloc ?_ _)); refine blk_put (cs := #[.slice none 0 0, .int .i64 0, .int .i64 0]) ?_ 0 _ rfl; (with_reducible repeat (first | refine blk_drewN ?_ _ | refine blk_drew ?_ | refine blk_alloc ?_ _)); exact BK632.out) hb); have n6_ := Aside0.mk (below_step (by repeat (first | (with_reducible first | exact HB.out | apply below_alloc | apply pw_below_drewN | apply below_drew1 | refine below_set ?_ GE615.out | refine below_set ?_ GE632.out) | exact HB.out)) hb); clear HO620; clear HO625; clear HO629; clear BK615; clear BK632; clear HB; have HO620 := n0_; have HO625 := n1_; have HO629 := n2_; have HO635 := n3_; have BK615 := n4_; have BK632 := n5_; have HB := n6_; clear n0_ n1_ n2_ n3_ n4_ n5_ n6_; (try clear hb); (try clear hb2); (try clear hk); (try clear hi); (try clear ho0); have hcz44_0 : w43.cell? ⟨gb632, 0, none⟩ = some (.slice Ao40 t627.length co40) := (blk_cell BK632.out 0).trans rfl; have hcz44_1 : w43.cell? ⟨gb632, 1, none⟩ = some (.int .i64 t630) := (blk_cell BK632.out 1).trans rfl; have hcz44_2 : w43.cell? ⟨gb632, 2, none⟩ = some (.int .i64 t631) := (blk_cell BK632.out 2).trans rfl; have hfz44_0 := blk_frozen BK632.out 0; have hfz44_1 := blk_frozen BK632.out 1; have hfz44_2 := blk_frozen BK632.out 2; obtain ⟨Ao45, co45, eo45⟩ := Kd.R_slice HO635.out; subst eo45) | ((with_reducible refine gate_callee (f := 25) rfl ?_); refine goesL_ (some 39) rfl rfl Try.func25 (by kernel_rfl) rfl #[.agg #[.slice Ao40 t627.length co40, .int .i64 t630, .int .i64 t631], .slice Ao45 t633.length co45, .int .i64 a2, .int .i64 a3] rfl (by (try simp only [List.map_toArray, List.map_cons, List.map_nil]); first | done | rfl | (simp only [List.length_drop, List.length_take]; rfl)) ?_; (with_reducible refine (impl_DownBound.calls k _ _ t627 t630 t631 _ _ t633 a2 a3 t636 _ ?side1 ?side2 ?side3 ?side4 A20.out).mono ?_); (case side1 => repeat (first | exact (Kd.R_reads' HO629.out).2.2 | (with_reducible refine Kd.C_alloc ?_ _) | (with_reducible refine Kd.C_drewN ?_ _) | (with_reducible refine Kd.C_drew ?_))); (case side2 => exact (Kd.R_reads' HO629.out).2.1); (case side3 => repeat (first | exact (Kd.R_reads' HO635.out).2.2 | (with_reducible refine Kd.C_alloc ?_ _) | (with_reducible refine Kd.C_drewN ?_ _) | (with_reducible refine Kd.C_drew ?_))); (case side4 => exact (Kd.R_reads' HO635.out).2.1); rintro e w46 ⟨rfl, hb⟩; refine ⟨_, rfl, ?_⟩; have n0_ := Aside0.mk (Kd.R_below (by (with_reducible repeat (first | apply Kd.R_alloc | apply Kd.R_drewN | apply Kd.R_drew)); exact HO620.out) hb); have n1_ := Aside0.mk (Kd.R_below (by (with_reducible repeat (first | apply Kd.R_alloc | apply Kd.R_drewN | apply Kd.R_drew)); exact HO625.out) hb); have n2_ := Aside0.mk (Kd.R_below (by (with_reducible repeat (first | apply Kd.R_alloc | apply Kd.R_drewN | apply Kd.R_drew)); exact HO629.out) hb); have n3_ := Aside0.mk (Kd.R_below (by (with_reducible repeat (first | apply Kd.R_alloc | apply Kd.R_drewN | apply Kd.R_drew)); exact HO635.out) hb); have n4_ := Aside0.mk (blk_below (g := gb615) (o := .cells #[.slice A0_0 l0_0.length c0_0, .int .i64 a0_1, .int .i64 a0_2] 58 (0, 0)) (by (with_reducible repeat (first | refine blk_drewN ?_ _ | refine blk_drew ?_ | refine blk_alloc ?_ _)); exact BK615.out) hb); have n5_ := Aside0.mk (blk_below (g := gb632) (o := .cells #[.slice Ao40 t627.length co40, .int .i64 t630, .int .i64 t631] 33 (0, 0)) (by (with_reducible repeat (first | refine blk_drewN ?_ _ | refine blk_drew ?_ | refine blk_alloc ?_ _)); exact BK632.out) hb); have n6_ := Aside0.mk (below_step (by repeat (first | (with_reducible first | exact HB.out | apply below_alloc | apply pw_below_drewN | apply below_drew1 | refine below_set ?_ GE615.out | refine below_set ?_ GE632.out) | exact HB.out)) hb); clear HO620; clear HO625; clear HO629; clear HO635; clear BK615; clear BK632; clear HB; have HO620 := n0_; have HO625 := n1_; have HO629 := n2_; have HO635 := n3_; have BK615 := n4_; have BK632 := n5_; have HB := n6_; clear n0_ n1_ n2_ n3_ n4_ n5_ n6_; (try clear hb); (try clear hb2); (try clear hk); (try clear hi)))
            have n0_ := Aside0.mk (Kd.R_drew HO620.out)
            have n1_ := Aside0.mk (Kd.R_drew HO625.out)
            have n2_ := Aside0.mk (Kd.R_drew HO629.out)
            have n3_ := Aside0.mk (Kd.R_drew HO635.out)
            have n4_ := Aside0.mk (blk_drew BK615.out)
            have n5_ := Aside0.mk (blk_drew BK632.out)
            have n6_ := Aside0.mk (below_drew1 HB.out)
            clear HO620
            clear HO625
            clear HO629
            clear HO635
            clear BK615
            clear BK632
            clear HB
            have HO620 := n0_
            have HO625 := n1_
            have HO629 := n2_
            have HO635 := n3_
            have BK615 := n4_
            have BK632 := n5_
            have HB := n6_
            clear n0_ n1_ n2_ n3_ n4_ n5_ n6_
            refine start_ (n := 5) (S := fun w' => w'.cell? ⟨gb632, 0, none⟩ = some (.slice Ao40 t627.length co40) ∧ w'.cell? ⟨gb632, 1, none⟩ = some (.int .i64 t630) ∧ w'.cell? ⟨gb632, 2, none⟩ = some (.int .i64 t631) ∧ w'.cell? ⟨gb615, 0, none⟩ = some (.slice A0_0 l0_0.length c0_0) ∧ w'.cell? ⟨gb615, 1, none⟩ = some (.int .i64 a0_1) ∧ w'.cell? ⟨gb615, 2, none⟩ = some (.int .i64 a0_2)) (ds := []) #[false, false, false, false, false] (by kernel_rfl) rfl rfl ⟨(blk_cell BK632.out 0).trans rfl, (blk_cell BK632.out 1).trans rfl, (blk_cell BK632.out 2).trans rfl, (blk_cell BK615.out 0).trans rfl, (blk_cell BK615.out 1).trans rfl, (blk_cell BK615.out 2).trans rfl⟩ (fun hHeld => ?_)
            generalize w46.drew = w47 at HO620 HO625 HO629 HO635 BK615 BK632 HB hHeld ⊢
            refine take_ (i := 0) (N := some 43) (v := ?_) (a' := ?_) #[true, false, false, false, false] rfl rfl (by kernel_rfl) (fun _ _ _ h => h) (Or.inl ⟨by rfl, ?_⟩) hHeld ?_ ?_
            rotate_left
            · rintro w' ⟨s0, s1, s2, s3, s4, s5⟩
              go_simp
              with_reducible rfl
            rotate_left
            · simp only [Act.put, List.setIfInBounds_toArray, List.set_cons_zero, List.set_cons_succ, i64_w, i32_w]
              rfl
            refine take_ (i := 1) (N := some 44) (v := ?_) (a' := ?_) #[true, true, false, false, false] rfl rfl (by kernel_rfl) (fun _ _ _ h => h) (Or.inl ⟨by rfl, ?_⟩) hHeld ?_ ?_
            rotate_left
            · rintro w' ⟨s0, s1, s2, s3, s4, s5⟩
              go_simp
              with_reducible rfl
            rotate_left
            · simp only [Act.put, List.setIfInBounds_toArray, List.set_cons_zero, List.set_cons_succ, i64_w, i32_w]
              rfl
            refine one_ (i := 2) (N := some 45) #[true, true, true, false, false] rfl rfl (by kernel_rfl) (by decide) (fun K hK => ?_)
            refine goes_ Try.func51 (by kernel_rfl) rfl #[.agg #[.slice A0_0 l0_0.length c0_0, .int .i64 a0_1, .int .i64 a0_2]] (by rfl) rfl rfl (by (try simp only [List.map_toArray, List.map_cons, List.map_nil]); first | done | rfl | (simp only [List.length_drop, List.length_take]; rfl)) ?_
            with_reducible refine (laws_toSide.calls k _ _ l0_0 a0_1 a0_2 t637 t640 t641 _ ?side1 ?side2 A22.out).mono ?_
            (case side1 => repeat (first | exact (Kd.C_below HR0_0.out HB.out) | (with_reducible refine Kd.C_alloc ?_ _) | (with_reducible refine Kd.C_drewN ?_ _) | (with_reducible refine Kd.C_drew ?_)))
            (case side2 => exact HC0_0.out)
            rintro e w48 ⟨v638, rfl, ho0, hb⟩
            refine ⟨_, rfl, ?_⟩
            have n0_ := Aside0.mk (Kd.R_elder' (by (with_reducible repeat (first | apply Kd.R_alloc | apply Kd.R_drewN | apply Kd.R_drew)); exact HO620.out) (Kd.R_base ho0) hb)
            have n1_ := Aside0.mk (Kd.R_below (by (with_reducible repeat (first | apply Kd.R_alloc | apply Kd.R_drewN | apply Kd.R_drew)); exact HO625.out) hb)
            have n2_ := Aside0.mk (Kd.R_elder' (by (with_reducible repeat (first | apply Kd.R_alloc | apply Kd.R_drewN | apply Kd.R_drew)); exact HO629.out) (Kd.R_base ho0) hb)
            have n3_ := Aside0.mk (Kd.R_below (by (with_reducible repeat (first | apply Kd.R_alloc | apply Kd.R_drewN | apply Kd.R_drew)); exact HO635.out) hb)
            have n4_ := Aside0.mk (Kd.R_lower (Kd.R_new' (Kd.R_new' ho0 (Kd.R_lt (by (with_reducible repeat (first | apply Kd.R_alloc | apply Kd.R_drewN | apply Kd.R_drew)); exact HO620.out))) (Kd.R_lt (by (with_reducible repeat (first | apply Kd.R_alloc | apply Kd.R_drewN | apply Kd.R_drew)); exact HO629.out))) (below_size (by repeat (first | (with_reducible first | exact HB.out | apply below_alloc | apply pw_below_drewN | apply below_drew1 | refine below_set ?_ GE615.out | refine below_set ?_ GE632.out) | exact HB.out))))
            have n5_ := Aside0.mk (blk_below (g := gb615) (o := .cells #[.slice A0_0 l0_0.length c0_0, .int .i64 a0_1, .int .i64 a0_2] 58 (0, 0)) (by (with_reducible repeat (first | refine blk_drewN ?_ _ | refine blk_drew ?_ | refine blk_alloc ?_ _)); exact BK615.out) hb)
            have n6_ := Aside0.mk (blk_below (g := gb632) (o := .cells #[.slice Ao40 t627.length co40, .int .i64 t630, .int .i64 t631] 33 (0, 0)) (by (with_reducible repeat (first | refine blk_drewN ?_ _ | refine blk_drew ?_ | refine blk_alloc ?_ _)); exact BK632.out) hb)
            have n7_ := Aside0.mk (below_step (by repeat (first | (with_reducible first | exact HB.out | apply below_alloc | apply pw_below_drewN | apply below_drew1 | refine below_set ?_ GE615.out | refine below_set ?_ GE632.out) | exact HB.out)) hb)
            clear HO620
            clear HO625
            clear HO629
            clear HO635
            clear BK615
            clear BK632
            clear HB
            have HO620 := n0_
            have HO625 := n1_
            have HO629 := n2_
            have HO635 := n3_
            have HO639 := n4_
            have BK615 := n5_
            have BK632 := n6_
            have HB := n7_
            clear n0_ n1_ n2_ n3_ n4_ n5_ n6_ n7_
            (try clear hb)
            (try clear hb2)
            (try clear hk)
            (try clear hi)
            (try clear ho0)
            obtain ⟨Ao49, co49, eo49⟩ := Kd.R_slice HO639.out
            (first | subst eo49 | (injection eo49 with f1_ f2_ f3_; have f4_ := f1_.symm; have f5_ := f3_.symm; clear f1_ f2_ f3_; subst f4_; subst f5_))
            refine hK.out _ _ ⟨(blk_cell BK632.out 0).trans rfl, (blk_cell BK632.out 1).trans rfl, (blk_cell BK632.out 2).trans rfl, (blk_cell BK615.out 0).trans rfl, (blk_cell BK615.out 1).trans rfl, (blk_cell BK615.out 2).trans rfl⟩ (fun hHeld => ?_)
            clear hK K
            refine norm_ (a' := ?_) ?_ ?_
            rotate_left
            · show Act.put _ (some 45) _ = _
              simp only [Act.put, List.setIfInBounds_toArray, List.set_cons_zero, List.set_cons_succ, i64_w, i32_w]
              rfl
            refine one_ (i := 3) (N := some 46) #[true, true, true, true, false] rfl rfl (by kernel_rfl) (by decide) (fun K hK => ?_)
            refine goes_ Try.func52 (by kernel_rfl) rfl #[.agg #[.slice Ao40 t627.length co40, .int .i64 t630, .int .i64 t631], .agg #[.slice Ao49 t637.length co49, .int .i64 t640, .int .i64 t641]] (by rfl) rfl rfl (by (try simp only [List.map_toArray, List.map_cons, List.map_nil]); first | done | rfl | (simp only [List.length_drop, List.length_take]; rfl)) ?_
            with_reducible refine (laws_eqSide.calls k _ _ t627 t630 t631 _ _ t637 t640 t641 true _ ?side1 ?side2 ?side3 ?side4 A23.out).mono ?_
            (case side1 => repeat (first | exact (Kd.R_reads' HO629.out).2.2 | (with_reducible refine Kd.C_alloc ?_ _) | (with_reducible refine Kd.C_drewN ?_ _) | (with_reducible refine Kd.C_drew ?_)))
            (case side2 => exact (Kd.R_reads' HO629.out).2.1)
            (case side3 => repeat (first | exact (Kd.R_reads' HO639.out).2.2 | (with_reducible refine Kd.C_alloc ?_ _) | (with_reducible refine Kd.C_drewN ?_ _) | (with_reducible refine Kd.C_drew ?_)))
            (case side4 => exact (Kd.R_reads' HO639.out).2.1)
            rintro e w50 ⟨rfl, hb⟩
            refine ⟨_, rfl, ?_⟩
            have n0_ := Aside0.mk (Kd.R_below (by (with_reducible repeat (first | apply Kd.R_alloc | apply Kd.R_drewN | apply Kd.R_drew)); exact HO620.out) hb)
            have n1_ := Aside0.mk (Kd.R_below (by (with_reducible repeat (first | apply Kd.R_alloc | apply Kd.R_drewN | apply Kd.R_drew)); exact HO625.out) hb)
            have n2_ := Aside0.mk (Kd.R_below (by (with_reducible repeat (first | apply Kd.R_alloc | apply Kd.R_drewN | apply Kd.R_drew)); exact HO629.out) hb)
            have n3_ := Aside0.mk (Kd.R_below (by (with_reducible repeat (first | apply Kd.R_alloc | apply Kd.R_drewN | apply Kd.R_drew)); exact HO635.out) hb)
            have n4_ := Aside0.mk (Kd.R_below (by (with_reducible repeat (first | apply Kd.R_alloc | apply Kd.R_drewN | apply Kd.R_drew)); exact HO639.out) hb)
            have n5_ := Aside0.mk (blk_below (g := gb615) (o := .cells #[.slice A0_0 l0_0.length c0_0, .int .i64 a0_1, .int .i64 a0_2] 58 (0, 0)) (by (with_reducible repeat (first | refine blk_drewN ?_ _ | refine blk_drew ?_ | refine blk_alloc ?_ _)); exact BK615.out) hb)
            have n6_ := Aside0.mk (blk_below (g := gb632) (o := .cells #[.slice Ao40 t627.length co40, .int .i64 t630, .int .i64 t631] 33 (0, 0)) (by (with_reducible repeat (first | refine blk_drewN ?_ _ | refine blk_drew ?_ | refine blk_alloc ?_ _)); exact BK632.out) hb)
            have n7_ := Aside0.mk (below_step (by repeat (first | (with_reducible first | exact HB.out | apply below_alloc | apply pw_below_drewN | apply below_drew1 | refine below_set ?_ GE615.out | refine below_set ?_ GE632.out) | exact HB.out)) hb)
            clear HO620
            clear HO625
            clear HO629
            clear HO635
            clear HO639
            clear BK615
            clear BK632
            clear HB
            have HO620 := n0_
            have HO625 := n1_
            have HO629 := n2_
            have HO635 := n3_
            have HO639 := n4_
            have BK615 := n5_
            have BK632 := n6_
            have HB := n7_
            clear n0_ n1_ n2_ n3_ n4_ n5_ n6_ n7_
            (try clear hb)
            (try clear hb2)
            (try clear hk)
            (try clear hi)
            refine hK.out _ _ ⟨(blk_cell BK632.out 0).trans rfl, (blk_cell BK632.out 1).trans rfl, (blk_cell BK632.out 2).trans rfl, (blk_cell BK615.out 0).trans rfl, (blk_cell BK615.out 1).trans rfl, (blk_cell BK615.out 2).trans rfl⟩ (fun hHeld => ?_)
            clear hK K
            refine norm_ (a' := ?_) ?_ ?_
            rotate_left
            · show Act.put _ (some 46) _ = _
              simp only [Act.put, List.setIfInBounds_toArray, List.set_cons_zero, List.set_cons_succ, i64_w, i32_w]
              rfl
            refine pure_ (i := 4) (N := some 47) (v := ?_) (a' := ?_) #[true, true, true, true, true] rfl rfl (by kernel_rfl) (fun _ _ _ h => h) (Or.inl ⟨by rfl, ?_⟩) ?_ ?_
            rotate_left
            · intro w'
              go_simp
              with_reducible rfl
            rotate_left
            · simp only [Act.put, List.setIfInBounds_toArray, List.set_cons_zero, List.set_cons_succ, i64_w, i32_w]
              rfl
            refine done_ (by kernel_rfl) ?_
            try go_wp2_with (first | ((with_reducible refine gate_callee (f := 30) rfl ?_); refine goesL_ (some 50) rfl rfl Try.func30 (by kernel_rfl) rfl #[.slice A1 l1.length c1] rfl (by (try simp only [List.map_toArray, List.map_cons, List.map_nil]); first | done | rfl | (simp only [List.length_drop, List.length_take]; rfl)) ?_; (with_reducible refine (laws_toMoveS.calls k _ _ l1 t643 _ ?side1 ?side2 A25.out).mono ?_); (case side1 => repeat (first | exact (Kd.C_below HR1.out HB.out) | (with_reducible refine Kd.C_alloc ?_ _) | (with_reducible refine Kd.C_drewN ?_ _) | (with_reducible refine Kd.C_drew ?_))); (case side2 => exact HC1.out); rintro e w51 ⟨v644, rfl, ho0, hb⟩; refine ⟨_, rfl, ?_⟩; have n0_ := Aside0.mk (Kd.R_below (by (with_reducible repeat (first | apply Kd.R_alloc | apply Kd.R_drewN | apply Kd.R_drew)); exact HO620.out) hb); have n1_ := Aside0.mk (Kd.R_elder' (by (with_reducible repeat (first | apply Kd.R_alloc | apply Kd.R_drewN | apply Kd.R_drew)); exact HO625.out) (Kd.R_base ho0) hb); have n2_ := Aside0.mk (Kd.R_below (by (with_reducible repeat (first | apply Kd.R_alloc | apply Kd.R_drewN | apply Kd.R_drew)); exact HO629.out) hb); have n3_ := Aside0.mk (Kd.R_elder' (by (with_reducible repeat (first | apply Kd.R_alloc | apply Kd.R_drewN | apply Kd.R_drew)); exact HO635.out) (Kd.R_base ho0) hb); have n4_ := Aside0.mk (Kd.R_below (by (with_reducible repeat (first | apply Kd.R_alloc | apply Kd.R_drewN | apply Kd.R_drew)); exact HO639.out) hb); have n5_ := Aside0.mk (Kd.R_lower (Kd.R_new' (Kd.R_new' ho0 (Kd.R_lt (by (with_reducible repeat (first | apply Kd.R_alloc | apply Kd.R_drewN | apply Kd.R_drew)); exact HO625.out))) (Kd.R_lt (by (with_reducible repeat (first | apply Kd.R_alloc | apply Kd.R_drewN | apply Kd.R_drew)); exact HO635.out))) (below_size (by repeat (first | (with_reducible first | exact HB.out | apply below_alloc | apply pw_below_drewN | apply below_drew1 | refine below_set ?_ GE615.out | refine below_set ?_ GE632.out) | exact HB.out)))); have n6_ := Aside0.mk (blk_below (g := gb615) (o := .cells #[.slice A0_0 l0_0.length c0_0, .int .i64 a0_1, .int .i64 a0_2] 58 (0, 0)) (by (with_reducible repeat (first | refine blk_drewN ?_ _ | refine blk_drew ?_ | refine blk_alloc ?_ _)); exact BK615.out) hb); have n7_ := Aside0.mk (blk_below (g := gb632) (o := .cells #[.slice Ao40 t627.length co40, .int .i64 t630, .int .i64 t631] 33 (0, 0)) (by (with_reducible repeat (first | refine blk_drewN ?_ _ | refine blk_drew ?_ | refine blk_alloc ?_ _)); exact BK632.out) hb); have n8_ := Aside0.mk (below_step (by repeat (first | (with_reducible first | exact HB.out | apply below_alloc | apply pw_below_drewN | apply below_drew1 | refine below_set ?_ GE615.out | refine below_set ?_ GE632.out) | exact HB.out)) hb); clear HO620; clear HO625; clear HO629; clear HO635; clear HO639; clear BK615; clear BK632; clear HB; have HO620 := n0_; have HO625 := n1_; have HO629 := n2_; have HO635 := n3_; have HO639 := n4_; have HO645 := n5_; have BK615 := n6_; have BK632 := n7_; have HB := n8_; clear n0_ n1_ n2_ n3_ n4_ n5_ n6_ n7_ n8_; (try clear hb); (try clear hb2); (try clear hk); (try clear hi); (try clear ho0); obtain ⟨Ao52, co52, eo52⟩ := Kd.R_slice HO645.out; subst eo52) | ((with_reducible refine gate_callee (f := 32) rfl ?_); refine goesL_ (some 51) rfl rfl Try.func32 (by kernel_rfl) rfl #[.slice Ao45 t633.length co45, .slice Ao52 t643.length co52] rfl (by (try simp only [List.map_toArray, List.map_cons, List.map_nil]); first | done | rfl | (simp only [List.length_drop, List.length_take]; rfl)) ?_; (with_reducible refine (laws_eqMoveS.calls k _ _ t633 _ _ t643 true _ ?side1 ?side2 ?side3 ?side4 A26.out).mono ?_); (case side1 => repeat (first | exact (Kd.R_reads' HO635.out).2.2 | (with_reducible refine Kd.C_alloc ?_ _) | (with_reducible refine Kd.C_drewN ?_ _) | (with_reducible refine Kd.C_drew ?_))); (case side2 => exact (Kd.R_reads' HO635.out).2.1); (case side3 => repeat (first | exact (Kd.R_reads' HO645.out).2.2 | (with_reducible refine Kd.C_alloc ?_ _) | (with_reducible refine Kd.C_drewN ?_ _) | (with_reducible refine Kd.C_drew ?_))); (case side4 => exact (Kd.R_reads' HO645.out).2.1); rintro e w53 ⟨rfl, hb⟩; refine ⟨_, rfl, ?_⟩; have n0_ := Aside0.mk (Kd.R_below (by (with_reducible repeat (first | apply Kd.R_alloc | apply Kd.R_drewN | apply Kd.R_drew)); exact HO620.out) hb); have n1_ := Aside0.mk (Kd.R_below (by (with_reducible repeat (first | apply Kd.R_alloc | apply Kd.R_drewN | apply Kd.R_drew)); exact HO625.out) hb); have n2_ := Aside0.mk (Kd.R_below (by (with_reducible repeat (first | apply Kd.R_alloc | apply Kd.R_drewN | apply Kd.R_drew)); exact HO629.out) hb); have n3_ := Aside0.mk (Kd.R_below (by (with_reducible repeat (first | apply Kd.R_alloc | apply Kd.R_drewN | apply Kd.R_drew)); exact HO635.out) hb); have n4_ := Aside0.mk (Kd.R_below (by (with_reducible repeat (first | apply Kd.R_alloc | apply Kd.R_drewN | apply Kd.R_drew)); exact HO639.out) hb); have n5_ := Aside0.mk (Kd.R_below (by (with_reducible repeat (first | apply Kd.R_alloc | apply Kd.R_drewN | apply Kd.R_drew)); exact HO645.out) hb); have n6_ := Aside0.mk (blk_below (g := gb615) (o := .cells #[.slice A0_0 l0_0.length c0_0, .int .i64 a0_1, .int .i64 a0_2] 58 (0, 0)) (by (with_reducible repeat (first | refine blk_drewN ?_ _ | refine blk_drew ?_ | refine blk_alloc ?_ _)); exact BK615.out) hb); have n7_ := Aside0.mk (blk_below (g := gb632) (o := .cells #[.slice Ao40 t627.length co40, .int .i64 t630, .int .i64 t631] 33 (0, 0)) (by (with_reducible repeat (first | refine blk_drewN ?_ _ | refine blk_drew ?_ | refine blk_alloc ?_ _)); exact BK632.out) hb); have n8_ := Aside0.mk (below_step (by repeat (first | (with_reducible first | exact HB.out | apply below_alloc | apply pw_below_drewN | apply below_drew1 | refine below_set ?_ GE615.out | refine below_set ?_ GE632.out) | exact HB.out)) hb); clear HO620; clear HO625; clear HO629; clear HO635; clear HO639; clear HO645; clear BK615; clear BK632; clear HB; have HO620 := n0_; have HO625 := n1_; have HO629 := n2_; have HO635 := n3_; have HO639 := n4_; have HO645 := n5_; have BK615 := n6_; have BK632 := n7_; have HB := n8_; clear n0_ n1_ n2_ n3_ n4_ n5_ n6_ n7_ n8_; (try clear hb); (try clear hb2); (try clear hk); (try clear hi)))
            go_ret
            exact ⟨by first | rfl | (simp [errW_none, errW_some] <;> rfl) | (simp [*, errW_none, errW_some] <;> rfl), by repeat (first | (with_reducible first | exact HB.out | apply below_alloc | apply pw_below_drewN | apply below_drew1 | refine below_set ?_ GE615.out | refine below_set ?_ GE632.out) | exact HB.out)⟩
          · replace c27 := Bool.eq_false_iff.mpr c27
            subst c27
            have H1 : (some false) = some r := by rw [if_neg (show ¬ (false = true) by decide)] at H; exact H
            clear H
            have H := H1
            clear H1
            exact absurd (Option.some.inj H) (by rw [hrT.out]; decide)
        · replace c24 := Bool.eq_false_iff.mpr c24
          subst c24
          have H1 : (some false) = some r := by rw [if_neg (show ¬ (false = true) by decide)] at H; exact H
          clear H
          have H := H1
          clear H1
          exact absurd (Option.some.inj H) (by rw [hrT.out]; decide)
      · rw [if_neg c21] at H
        have c21b0 : (t636 == t626) = false := beq_eq_false_iff_ne.mpr c21
        have c21b1 : (t636 != t626) = true := bne_iff_ne.mpr c21
        exact absurd (Option.some.inj H) (by rw [hrT.out]; decide)

end Go.Proofs.Ytfjjlipfjddaiaa.U
