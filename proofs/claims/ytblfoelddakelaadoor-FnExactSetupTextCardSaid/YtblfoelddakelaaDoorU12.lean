-- PRINTED by print.py (a twelfth state) out of the translation. Not trusted: Lean checks it.
import Derived.Test.YtblfoelddakelaaDoorU0
import Derived.Test.YtblfoelddakelaaDoorU5
import Derived.Test.YtblfoelddakelaaDoorU7
import Derived.Test.YtblfoelddakelaaDoorU8
import Derived.Test.YtblfoelddakelaaDoorU10
import Derived.Test.YtblfoelddakelaaDoorU11
namespace Go.Proofs.YtblfoelddakelaaDoor.U
open Go.RowKit Go.Proofs.YtblfoelddakelaaDoorW.PrintWords Go.Proofs.YtblfoelddakelaaDoorW.PrintLast Go.Proofs.YtblfoelddakelaaDoorW.PrintMore
attribute [local go_sem] max2_int min2_int max_two min_two max_three min_three max_four min_four   -- for this text's walks alone
set_option linter.unusedVariables false
set_option linter.unusedSimpArgs false

/-! ### laws_eqSide: function 14 -/
def laws_eqSide.f (k : Nat) (l0_0 : List (S67)) (a0_1 : Int) (a0_2 : Int) (l1_0 : List (S67)) (a1_1 : Int) (a1_2 : Int) : Option (Bool) := (laws_eqPolicyS.f k l0_0 l1_0).bind fun t211 => (if t211 = true then (if a0_1 = a1_1 then (if a0_2 = a1_2 then (some true) else (some false)) else (some false)) else (some false))
theorem laws_eqSide.mono : ∀ a0 a1 a2 a3 a4 a5 k, LeO (laws_eqSide.f k a0 a1 a2 a3 a4 a5) (laws_eqSide.f (k + 1) a0 a1 a2 a3 a4 a5) := by
  intro a0 a1 a2 a3 a4 a5 k
  unfold laws_eqSide.f
  repeat' with_reducible first | exact laws_eqPolicyS.mono _ _ _ | exact LeO.refl _ | exact LeO.none _ | refine LeO.ite ?_ ?_ | refine LeO.bind ?_ (fun _ => ?_)
set_option maxHeartbeats 8000000 in
set_option maxRecDepth 100000 in
theorem laws_eqSide.calls (k : Nat) (A0_0 : Option Addr) (c0_0 : Nat) (l0_0 : List (S67)) (a0_1 : Int) (a0_2 : Int) (A1_0 : Option Addr) (c1_0 : Nat) (l1_0 : List (S67)) (a1_1 : Int) (a1_2 : Int) (r : Bool) (hrT : Aside0 (r = true)) (w : World) (hr0_0 : Kd.C k67 w A0_0 l0_0.length l0_0) (hc0_0 : l0_0.length ≤ c0_0) (hr1_0 : Kd.C k67 w A1_0 l1_0.length l1_0) (hc1_0 : l1_0.length ≤ c1_0) (h : laws_eqSide.f k l0_0 a0_1 a0_2 l1_0 a1_1 a1_2 = some r) :
  Calls Tryd.prog 14 #[.agg #[.slice A0_0 l0_0.length c0_0, .int .i64 a0_1, .int .i64 a0_2], .agg #[.slice A1_0 l1_0.length c1_0, .int .i64 a1_1, .int .i64 a1_2]] w fun e w' => e = .returned (.bool r) ∧ Below w.heap.size w w' := by
 have hu35 := Tryd.underlying35
 have HR0_0 := Aside0.mk hr0_0
 have HC0_0 := Aside0.mk hc0_0
 clear hr0_0 hc0_0
 have HR1_0 := Aside0.mk hr1_0
 have HC1_0 := Aside0.mk hc1_0
 clear hr1_0 hc1_0
 have HB := Aside0.mk (Below.refl w.heap.size w)
 have H : ((laws_eqPolicyS.f k l0_0 l1_0).bind fun t211 => (if t211 = true then (if a0_1 = a1_1 then (if a0_2 = a1_2 then (some true) else (some false)) else (some false)) else (some false))) = some r := h
 clear h
 replace H := Option.bind_eq_some_iff.mp H
 obtain ⟨t211, A30, H⟩ := H
 replace H : (if t211 = true then (if a0_1 = a1_1 then (if a0_2 = a1_2 then (some true) else (some false)) else (some false)) else (some false)) = some r := H
 have A3 := Aside0.mk A30
 clear A30
 by_cases c4 : t211 = true
 ·subst c4
  rw [if_pos rfl] at H
  by_cases c5 : a0_1 = a1_1
  ·rw [if_pos c5] at H
   have c5b0 : (a0_1 == a1_1) = true := beq_iff_eq.mpr c5
   have c5b1 : (a0_1 != a1_1) = false := bne_eq_false_iff_eq.mpr c5
   clear c5
   by_cases c6 : a0_2 = a1_2
   ·rw [if_pos c6] at H
    have c6b0 : (a0_2 == a1_2) = true := beq_iff_eq.mpr c6
    have c6b1 : (a0_2 != a1_2) = false := bne_eq_false_iff_eq.mpr c6
    clear c6
    obtain rfl := Option.some.inj H
    go_enter Tryd.func14, Tryd.ntmps14
    go_wp2_with (first | ((with_reducible refine gate_dst (N := 2) rfl ?_); refine be_ (N := 2) (cs := #[.slice A0_0 l0_0.length c0_0, .int .i64 a0_1, .int .i64 a0_2]) (t := 35) ?_; intro gb209 hg w7 hbox hb; have BK209 := ak_ hbox; have GW209 := ak_ ((gs_ hg : w.heap.size ≤ gb209)); have GE209 := ak_ ((gs_ hg : w.heap.size ≤ gb209)); replace HB := ak_ (below_step hb_ hb); clear hb hbox hg) | ((with_reducible refine gate_dst (N := 3) rfl ?_); refine be_ (N := 3) (cs := #[.slice A1_0 l1_0.length c1_0, .int .i64 a1_1, .int .i64 a1_2]) (t := 35) ?_; intro gb210 hg w8 hbox hb; have BK210 := ak_ hbox; have GW210 := ak_ ((gs_ hg : w.heap.size ≤ gb210)); have GE210 := ak_ ((gs_ hg : w.heap.size ≤ gb210)); replace HB := ak_ (below_step hb_ hb); have NB209_210 := ak_ (nl_ hg (bk_ BK209)); have NB210_209 := ak_ (ng_ hg (bk_ BK209)); replace BK209 := ak_ (blk_below (bk_ BK209) hb); clear hb hbox hg; have hnb9 := NB209_210.out; have hnc9 := NB210_209.out; obtain ⟨hcz10_0, hcz10_1, hcz10_2, hfz10_0, hfz10_1, hfz10_2⟩ := bc3_ BK209.out; obtain ⟨hcz11_0, hcz11_1, hcz11_2, hfz11_0, hfz11_1, hfz11_2⟩ := bc3_ BK210.out) | ((with_reducible refine gate_callee (f := 31) rfl ?_); refine goesL_ (some 9) rfl rfl Tryd.func31 (by kernel_rfl) rfl #[.slice A0_0 l0_0.length c0_0, .slice A1_0 l1_0.length c1_0] rfl (ma2_ rfl rfl) ?_; (with_reducible refine (laws_eqPolicyS.calls k _ _ l0_0 _ _ l1_0 true ⟨rfl⟩ _ ?side1 ?side2 ?side3 ?side4 A3.out).mono ?_); (case side1 => exact kc_ HR0_0); (case side2 => exact HC0_0.out); (case side3 => exact kc_ HR1_0); (case side4 => exact HC1_0.out); rintro e w12 ⟨rfl, hb⟩; refine ⟨_, rfl, ?_⟩; replace BK209 := ak_ (blk_below (bk_ BK209) hb); replace BK210 := ak_ (blk_below (bk_ BK210) hb); replace HB := ak_ (below_step hb_ hb); (try clear hb); obtain ⟨hcz13_0, hcz13_1, hcz13_2, hfz13_0, hfz13_1, hfz13_2⟩ := bc3_ BK209.out; obtain ⟨hcz14_0, hcz14_1, hcz14_2, hfz14_0, hfz14_1, hfz14_2⟩ := bc3_ BK210.out))
    go_ret
    exact ⟨ew_, hb_⟩
   ·rw [if_neg c6] at H
    have c6b0 : (a0_2 == a1_2) = false := beq_eq_false_iff_ne.mpr c6
    have c6b1 : (a0_2 != a1_2) = true := bne_iff_ne.mpr c6
    exact absurd (Option.some.inj H) (by rw [hrT.out]; decide)
  ·rw [if_neg c5] at H
   have c5b0 : (a0_1 == a1_1) = false := beq_eq_false_iff_ne.mpr c5
   have c5b1 : (a0_1 != a1_1) = true := bne_iff_ne.mpr c5
   exact absurd (Option.some.inj H) (by rw [hrT.out]; decide)
 ·replace c4 := Bool.eq_false_iff.mpr c4
  subst c4
  rw [if_neg (show ¬ (false = true) by decide)] at H
  exact absurd (Option.some.inj H) (by rw [hrT.out]; decide)

/-! ### laws_FnExactSideText: function 4 -/
def laws_FnExactSideText.f (k : Nat) (l0_0 : List (S94)) (a0_1 : Int) (a0_2 : Int) : Option (Bool) := (laws_szSide.f l0_0 a0_1 a0_2 1048576).bind fun t213 => (if t213 < 0 then (some true) else ((laws_toSide.f k l0_0 a0_1 a0_2).bind fun bt214 => ((spec_SideText.f k bt214.1 bt214.2.1 bt214.2.2).bind fun t219 => ((laws_toSide.f k l0_0 a0_1 a0_2).bind fun bt220 => ((impl_SideText.f k bt220.1 bt220.2.1 bt220.2.2).bind fun t226 => (if t226.toList = t219.toList then ((laws_toSide.f k l0_0 a0_1 a0_2).bind fun bt227 => ((laws_eqSide.f k bt220.1 bt220.2.1 bt220.2.2 bt227.1 bt227.2.1 bt227.2.2).bind fun t232 => (if t232 = true then (some true) else (some false)))) else (some false)))))))
theorem laws_FnExactSideText.mono : ∀ a0 a1 a2 k, LeO (laws_FnExactSideText.f k a0 a1 a2) (laws_FnExactSideText.f (k + 1) a0 a1 a2) := by
  intro a0 a1 a2 k
  unfold laws_FnExactSideText.f
  repeat' with_reducible first | exact impl_SideText.mono _ _ _ _ | exact laws_eqSide.mono _ _ _ _ _ _ _ | exact laws_toSide.mono _ _ _ _ | exact spec_SideText.mono _ _ _ _ | exact LeO.refl _ | exact LeO.none _ | refine LeO.ite ?_ ?_ | refine LeO.bind ?_ (fun _ => ?_)
set_option maxHeartbeats 8000000 in
set_option maxRecDepth 100000 in
theorem laws_FnExactSideText.calls (k : Nat) (A0_0 : Option Addr) (c0_0 : Nat) (l0_0 : List (S94)) (a0_1 : Int) (a0_2 : Int) (r : Bool) (hrT : Aside0 (r = true)) (w : World) (hr0_0 : Kd.C k94 w A0_0 l0_0.length l0_0) (hc0_0 : l0_0.length ≤ c0_0) (hL : Lay w) (h : laws_FnExactSideText.f k l0_0 a0_1 a0_2 = some r) :
  Calls Tryd.prog 4 #[.agg #[.slice A0_0 l0_0.length c0_0, .int .i64 a0_1, .int .i64 a0_2]] w fun e w' => e = .returned (.bool r) ∧ Below w.heap.size w w' := by
 have HLAY := Aside0.mk hL
 clear hL
 have hu30 := Tryd.underlying30
 have hu35 := Tryd.underlying35
 have HR0_0 := Aside0.mk hr0_0
 have HC0_0 := Aside0.mk hc0_0
 clear hr0_0 hc0_0
 have HB := Aside0.mk (Below.refl w.heap.size w)
 have H : ((laws_szSide.f l0_0 a0_1 a0_2 1048576).bind fun t213 => (if t213 < 0 then (some true) else ((laws_toSide.f k l0_0 a0_1 a0_2).bind fun bt214 => ((spec_SideText.f k bt214.1 bt214.2.1 bt214.2.2).bind fun t219 => ((laws_toSide.f k l0_0 a0_1 a0_2).bind fun bt220 => ((impl_SideText.f k bt220.1 bt220.2.1 bt220.2.2).bind fun t226 => (if t226.toList = t219.toList then ((laws_toSide.f k l0_0 a0_1 a0_2).bind fun bt227 => ((laws_eqSide.f k bt220.1 bt220.2.1 bt220.2.2 bt227.1 bt227.2.1 bt227.2.2).bind fun t232 => (if t232 = true then (some true) else (some false)))) else (some false)))))))) = some r := h
 clear h
 replace H := Option.bind_eq_some_iff.mp H
 obtain ⟨t213, A20, H⟩ := H
 replace H : (if t213 < 0 then (some true) else ((laws_toSide.f k l0_0 a0_1 a0_2).bind fun bt214 => ((spec_SideText.f k bt214.1 bt214.2.1 bt214.2.2).bind fun t219 => ((laws_toSide.f k l0_0 a0_1 a0_2).bind fun bt220 => ((impl_SideText.f k bt220.1 bt220.2.1 bt220.2.2).bind fun t226 => (if t226.toList = t219.toList then ((laws_toSide.f k l0_0 a0_1 a0_2).bind fun bt227 => ((laws_eqSide.f k bt220.1 bt220.2.1 bt220.2.2 bt227.1 bt227.2.1 bt227.2.2).bind fun t232 => (if t232 = true then (some true) else (some false)))) else (some false))))))) = some r := H
 have A2 := Aside0.mk A20
 clear A20
 by_cases c3 : t213 < 0
 ·rw [if_pos c3] at H
  have c3b0 : decide (t213 < 0) = true := decide_eq_true c3
  clear c3
  obtain rfl := Option.some.inj H
  go_enter Tryd.func4, Tryd.ntmps4
  go_wp2_with (first | ((with_reducible refine gate_dst (N := 1) rfl ?_); refine be_ (N := 1) (cs := #[.slice A0_0 l0_0.length c0_0, .int .i64 a0_1, .int .i64 a0_2]) (t := 30) ?_; intro gb212 hg w4 hbox hb; have BK212 := ak_ hbox; have GW212 := ak_ ((gs_ hg : w.heap.size ≤ gb212)); have GE212 := ak_ ((gs_ hg : w.heap.size ≤ gb212)); replace HB := ak_ (below_step hb_ hb); clear hb hbox hg; obtain ⟨hcz5_0, hcz5_1, hcz5_2, hfz5_0, hfz5_1, hfz5_2⟩ := bc3_ BK212.out) | ((with_reducible refine gate_callee (f := 10) rfl ?_); refine goesL_ (some 9) rfl rfl Tryd.func10 (by kernel_rfl) rfl #[.agg #[.slice A0_0 l0_0.length c0_0, .int .i64 a0_1, .int .i64 a0_2], .int .i64 1048576] rfl (ma2_ rfl rfl) ?_; (with_reducible refine (laws_szSide.calls _ _ l0_0 a0_1 a0_2 1048576 t213 _ ?side1 ?side2 A2.out).mono ?_); (case side1 => exact kc_ HR0_0); (case side2 => exact HC0_0.out); rintro e w6 ⟨rfl, hb⟩; refine ⟨_, rfl, ?_⟩; replace BK212 := ak_ (blk_below (bk_ BK212) hb); replace HB := ak_ (below_step hb_ hb); (try clear hb)))
  go_ret
  exact ⟨ew_, hb_⟩
 ·rw [if_neg c3] at H
  have c3b0 : decide (t213 < 0) = false := decide_eq_false c3
  clear c3
  replace H := Option.bind_eq_some_iff.mp H
  obtain ⟨⟨t214, t217, t218⟩, A70, H⟩ := H
  replace H : ((spec_SideText.f k t214 t217 t218).bind fun t219 => ((laws_toSide.f k l0_0 a0_1 a0_2).bind fun bt220 => ((impl_SideText.f k bt220.1 bt220.2.1 bt220.2.2).bind fun t226 => (if t226.toList = t219.toList then ((laws_toSide.f k l0_0 a0_1 a0_2).bind fun bt227 => ((laws_eqSide.f k bt220.1 bt220.2.1 bt220.2.2 bt227.1 bt227.2.1 bt227.2.2).bind fun t232 => (if t232 = true then (some true) else (some false)))) else (some false))))) = some r := H
  have A7 := Aside0.mk A70
  clear A70
  replace H := Option.bind_eq_some_iff.mp H
  obtain ⟨t219, A80, H⟩ := H
  replace H : ((laws_toSide.f k l0_0 a0_1 a0_2).bind fun bt220 => ((impl_SideText.f k bt220.1 bt220.2.1 bt220.2.2).bind fun t226 => (if t226.toList = t219.toList then ((laws_toSide.f k l0_0 a0_1 a0_2).bind fun bt227 => ((laws_eqSide.f k bt220.1 bt220.2.1 bt220.2.2 bt227.1 bt227.2.1 bt227.2.2).bind fun t232 => (if t232 = true then (some true) else (some false)))) else (some false)))) = some r := H
  have A8 := Aside0.mk A80
  clear A80
  replace H := Option.bind_eq_some_iff.mp H
  obtain ⟨⟨t220, t223, t224⟩, A90, H⟩ := H
  replace H : ((impl_SideText.f k t220 t223 t224).bind fun t226 => (if t226.toList = t219.toList then ((laws_toSide.f k l0_0 a0_1 a0_2).bind fun bt227 => ((laws_eqSide.f k t220 t223 t224 bt227.1 bt227.2.1 bt227.2.2).bind fun t232 => (if t232 = true then (some true) else (some false)))) else (some false))) = some r := H
  have A9 := Aside0.mk A90
  clear A90
  replace H := Option.bind_eq_some_iff.mp H
  obtain ⟨t226, A100, H⟩ := H
  replace H : (if t226.toList = t219.toList then ((laws_toSide.f k l0_0 a0_1 a0_2).bind fun bt227 => ((laws_eqSide.f k t220 t223 t224 bt227.1 bt227.2.1 bt227.2.2).bind fun t232 => (if t232 = true then (some true) else (some false)))) else (some false)) = some r := H
  have A10 := Aside0.mk A100
  clear A100
  by_cases c11 : t226.toList = t219.toList
  ·rw [if_pos c11] at H
   have c11b0 : (t226.toList == t219.toList) = true := beq_iff_eq.mpr c11
   have c11b1 : (t226.toList != t219.toList) = false := bne_eq_false_iff_eq.mpr c11
   clear c11
   replace H := Option.bind_eq_some_iff.mp H
   obtain ⟨⟨t227, t230, t231⟩, A120, H⟩ := H
   replace H : ((laws_eqSide.f k t220 t223 t224 t227 t230 t231).bind fun t232 => (if t232 = true then (some true) else (some false))) = some r := H
   have A12 := Aside0.mk A120
   clear A120
   replace H := Option.bind_eq_some_iff.mp H
   obtain ⟨t232, A130, H⟩ := H
   replace H : (if t232 = true then (some true) else (some false)) = some r := H
   have A13 := Aside0.mk A130
   clear A130
   by_cases c14 : t232 = true
   ·subst c14
    rw [if_pos rfl] at H
    obtain rfl := Option.some.inj H
    go_enter Tryd.func4, Tryd.ntmps4
    try go_wp2_with (first | ((with_reducible refine gate_dst (N := 1) rfl ?_); refine be_ (N := 1) (cs := #[.slice A0_0 l0_0.length c0_0, .int .i64 a0_1, .int .i64 a0_2]) (t := 30) ?_; intro gb212 hg w15 hbox hb; have BK212 := ak_ hbox; have GW212 := ak_ ((gs_ hg : w.heap.size ≤ gb212)); have GE212 := ak_ ((gs_ hg : w.heap.size ≤ gb212)); replace HB := ak_ (below_step hb_ hb); clear hb hbox hg; obtain ⟨hcz16_0, hcz16_1, hcz16_2, hfz16_0, hfz16_1, hfz16_2⟩ := bc3_ BK212.out) | ((with_reducible refine gate_callee (f := 10) rfl ?_); refine goesL_ (some 9) rfl rfl Tryd.func10 (by kernel_rfl) rfl #[.agg #[.slice A0_0 l0_0.length c0_0, .int .i64 a0_1, .int .i64 a0_2], .int .i64 1048576] rfl (ma2_ rfl rfl) ?_; (with_reducible refine (laws_szSide.calls _ _ l0_0 a0_1 a0_2 1048576 t213 _ ?side1 ?side2 A2.out).mono ?_); (case side1 => exact kc_ HR0_0); (case side2 => exact HC0_0.out); rintro e w17 ⟨rfl, hb⟩; refine ⟨_, rfl, ?_⟩; replace BK212 := ak_ (blk_below (bk_ BK212) hb); replace HB := ak_ (below_step hb_ hb); (try clear hb); (try clear hk); obtain ⟨hcz18_0, hcz18_1, hcz18_2, hfz18_0, hfz18_1, hfz18_2⟩ := bc3_ BK212.out) | ((with_reducible refine gate_callee (f := 12) rfl ?_); refine goesL_ (some 13) rfl rfl Tryd.func12 (by kernel_rfl) rfl #[.agg #[.slice A0_0 l0_0.length c0_0, .int .i64 a0_1, .int .i64 a0_2]] rfl (ma1_ rfl) ?_; (with_reducible refine (laws_toSide.calls k _ _ l0_0 a0_1 a0_2 t214 t217 t218 _ ?side1 ?side2 A7.out).mono ?_); (case side1 => exact kc_ HR0_0); (case side2 => exact HC0_0.out); rintro e w19 ⟨v215, rfl, ho0, hb⟩; refine ⟨_, rfl, ?_⟩; have HO216 := ak_ (Kd.R_lower ho0 (below_size hb_)); replace BK212 := ak_ (blk_below (bk_ BK212) hb); replace HB := ak_ (below_step hb_ hb); (try clear hb); (try clear hk); (try clear ho0); obtain ⟨Ao20, co20, eo20⟩ := Kd.R_slice HO216.out; subst eo20) | ((with_reducible refine gate_callee (f := 11) rfl ?_); refine goesL_ (some 14) rfl rfl Tryd.func11 (by kernel_rfl) rfl #[.agg #[.slice Ao20 t214.length co20, .int .i64 t217, .int .i64 t218]] rfl (ma1_ rfl) ?_; (with_reducible refine (spec_SideText.calls k _ _ t214 t217 t218 t219 _ ?side1 ?side2 A8.out).mono ?_); (case side1 => repeat (first | exact (Kd.R_reads' HO216.out).2.2 | (with_reducible refine Kd.C_alloc ?_ _) | (with_reducible refine Kd.C_drewN ?_ _) | (with_reducible refine Kd.C_drew ?_))); (case side2 => exact (Kd.R_reads' HO216.out).2.1); rintro e w21 ⟨rfl, hb⟩; refine ⟨_, rfl, ?_⟩; replace HO216 := ak_ (Kd.R_below (by (with_reducible repeat (first | apply Kd.R_alloc | apply Kd.R_drewN | apply Kd.R_drew)); exact HO216.out) hb); replace BK212 := ak_ (blk_below (bk_ BK212) hb); replace HB := ak_ (below_step hb_ hb); (try clear hb); (try clear hk); obtain ⟨hcz22_0, hcz22_1, hcz22_2, hfz22_0, hfz22_1, hfz22_2⟩ := bc3_ BK212.out) | ((with_reducible refine gate_callee (f := 12) rfl ?_); refine goesL_ (some 16) rfl rfl Tryd.func12 (by kernel_rfl) rfl #[.agg #[.slice A0_0 l0_0.length c0_0, .int .i64 a0_1, .int .i64 a0_2]] rfl (ma1_ rfl) ?_; (with_reducible refine (laws_toSide.calls k _ _ l0_0 a0_1 a0_2 t220 t223 t224 _ ?side1 ?side2 A9.out).mono ?_); (case side1 => exact kc_ HR0_0); (case side2 => exact HC0_0.out); rintro e w23 ⟨v221, rfl, ho0, hb⟩; refine ⟨_, rfl, ?_⟩; have HO222 := ak_ (Kd.R_lower (Kd.R_new' ho0 (Kd.R_lt (by (with_reducible repeat (first | apply Kd.R_alloc | apply Kd.R_drewN | apply Kd.R_drew)); exact HO216.out))) (below_size hb_)); replace HO216 := ak_ (Kd.R_elder' (by (with_reducible repeat (first | apply Kd.R_alloc | apply Kd.R_drewN | apply Kd.R_drew)); exact HO216.out) (Kd.R_base ho0) hb); replace BK212 := ak_ (blk_below (bk_ BK212) hb); replace HB := ak_ (below_step hb_ hb); (try clear hb); (try clear hk); (try clear ho0)) | ((with_reducible refine gate_dst (N := 5) rfl ?_); refine be_ (N := 5) (cs := #[.slice none 0 0, .int .i64 0, .int .i64 0]) (t := 35) ?_; intro gb225 hg w24 hbox hb; replace HO216 := ak_ (Kd.R_below (by (with_reducible repeat (first | apply Kd.R_alloc | apply Kd.R_drewN | apply Kd.R_drew)); exact HO216.out) hb); replace HO222 := ak_ (Kd.R_below (by (with_reducible repeat (first | apply Kd.R_alloc | apply Kd.R_drewN | apply Kd.R_drew)); exact HO222.out) hb); have BK225 := ak_ hbox; have GW225 := ak_ ((gs_ hg : w.heap.size ≤ gb225)); have GE225 := ak_ ((gs_ hg : w.heap.size ≤ gb225)); replace HB := ak_ (below_step hb_ hb); have NB212_225 := ak_ (nl_ hg (bk_ BK212)); have NB225_212 := ak_ (ng_ hg (bk_ BK212)); replace BK212 := ak_ (blk_below (bk_ BK212) hb); clear hb hbox hg; obtain ⟨Ao25, co25, eo25⟩ := Kd.R_slice HO222.out; subst eo25; have hnb26 := NB225_212.out; have hnc26 := NB212_225.out; obtain ⟨hcz27_0, hcz27_1, hcz27_2, hfz27_0, hfz27_1, hfz27_2⟩ := bc3_ BK225.out) | ((with_reducible refine gate_callee (f := 13) rfl ?_); refine goesL_ (some 18) rfl rfl Tryd.func13 (by kernel_rfl) rfl #[.agg #[.slice Ao25 t220.length co25, .int .i64 t223, .int .i64 t224]] rfl (ma1_ rfl) ?_; (with_reducible refine (impl_SideText.calls k _ _ t220 t223 t224 t226 _ ?side1 ?side2 ?sideL A10.out).mono ?_); (case sideL => refine lay_at HLAY.out ?_; repeat (first | (with_reducible first | exact HB.out | apply below_alloc | apply pw_below_drewN | apply below_drew1 | refine below_set ?_ GE212.out | refine below_set ?_ GE225.out) | exact HB.out)); (case side1 => refine (Kd.R_reads' (e := 67) (base := w.heap.size) (ok := fun k_ => (True ∧ some k_ ≠ (.slice Ao20 t214.length co20 : Value).ownBlock)) (n := t220.length) (c := co25) ?_).2.2; exact (by (with_reducible repeat (first | apply Kd.R_alloc | apply Kd.R_drewN | apply Kd.R_drew)); exact (Kd.R_mono (Kd.R_far (p := ⟨gb225, 2, none⟩) (Kd.R_far (p := ⟨gb225, 1, none⟩) (Kd.R_far (p := ⟨gb225, 0, none⟩) (Kd.R_types HO222.out BK225.out (by decide)) (fun _ hk => hk.2) (.slice Ao25 t220.length co25)) (fun _ hk => hk.2) (.int .i64 t223)) (fun _ hk => hk.2) (.int .i64 t224)) (fun _ h_ => h_.1)))); (case side2 => exact (Kd.R_reads' HO222.out).2.1); rintro e w28 ⟨rfl, hb⟩; refine ⟨_, rfl, ?_⟩; replace HO216 := ak_ (Kd.R_below (by (with_reducible repeat (first | apply Kd.R_alloc | apply Kd.R_drewN | apply Kd.R_drew)); exact (Kd.R_mono (Kd.R_far (p := ⟨gb225, 2, none⟩) (Kd.R_far (p := ⟨gb225, 1, none⟩) (Kd.R_far (p := ⟨gb225, 0, none⟩) (Kd.R_types HO216.out BK225.out (by decide)) (fun _ hk => hk.2) (.slice Ao25 t220.length co25)) (fun _ hk => hk.2) (.int .i64 t223)) (fun _ hk => hk.2) (.int .i64 t224)) (fun _ h_ => h_.1))) hb); replace HO222 := ak_ (Kd.R_below (by (with_reducible repeat (first | apply Kd.R_alloc | apply Kd.R_drewN | apply Kd.R_drew)); exact (Kd.R_mono (Kd.R_far (p := ⟨gb225, 2, none⟩) (Kd.R_far (p := ⟨gb225, 1, none⟩) (Kd.R_far (p := ⟨gb225, 0, none⟩) (Kd.R_types HO222.out BK225.out (by decide)) (fun _ hk => hk.2) (.slice Ao25 t220.length co25)) (fun _ hk => hk.2) (.int .i64 t223)) (fun _ hk => hk.2) (.int .i64 t224)) (fun _ h_ => h_.1))) hb); replace BK212 := ak_ (blk_below (bk_ BK212) hb); replace BK225 := ak_ (blk_below (g := gb225) (o := .cells #[.slice Ao25 t220.length co25, .int .i64 t223, .int .i64 t224] 35 (0, 0)) (by (with_reducible repeat (first | refine blk_drewN ?_ _ | refine blk_drew ?_ | refine blk_alloc ?_ _)); refine blk_put (cs := #[.slice Ao25 t220.length co25, .int .i64 t223, .int .i64 0]) ?_ 2 _ rfl; (with_reducible repeat (first | refine blk_drewN ?_ _ | refine blk_drew ?_ | refine blk_alloc ?_ _)); refine blk_put (cs := #[.slice Ao25 t220.length co25, .int .i64 0, .int .i64 0]) ?_ 1 _ rfl; (with_reducible repeat (first | refine blk_drewN ?_ _ | refine blk_drew ?_ | refine blk_alloc ?_ _)); refine blk_put (cs := #[.slice none 0 0, .int .i64 0, .int .i64 0]) ?_ 0 _ rfl; (with_reducible repeat (first | refine blk_drewN ?_ _ | refine blk_drew ?_ | refine blk_alloc ?_ _)); exact BK225.out) hb); replace HB := ak_ (below_step hb_ hb); (try clear hb); (try clear hk)))
    replace HO216 := ak_ (Kd.R_drew HO216.out)
    replace HO222 := ak_ (Kd.R_drew HO222.out)
    replace BK212 := ak_ (blk_drew BK212.out)
    replace BK225 := ak_ (blk_drew BK225.out)
    replace HB := ak_ (below_drew1 HB.out)
    refine start_ (n := 5) (S := fun w' => w'.cell? ⟨gb225, 0, none⟩ = some (.slice Ao25 t220.length co25) ∧ w'.cell? ⟨gb225, 1, none⟩ = some (.int .i64 t223) ∧ w'.cell? ⟨gb225, 2, none⟩ = some (.int .i64 t224) ∧ w'.cell? ⟨gb212, 0, none⟩ = some (.slice A0_0 l0_0.length c0_0) ∧ w'.cell? ⟨gb212, 1, none⟩ = some (.int .i64 a0_1) ∧ w'.cell? ⟨gb212, 2, none⟩ = some (.int .i64 a0_2)) (ds := []) #[false, false, false, false, false] (by kernel_rfl) rfl rfl ⟨(blk_cell BK225.out 0).trans rfl, (blk_cell BK225.out 1).trans rfl, (blk_cell BK225.out 2).trans rfl, (blk_cell BK212.out 0).trans rfl, (blk_cell BK212.out 1).trans rfl, (blk_cell BK212.out 2).trans rfl⟩ (fun hHeld => ?_)
    generalize w28.drew = w29 at HO216 HO222 BK212 BK225 HB hHeld ⊢
    refine take_ (i := 0) (N := some 22) (v := ?_) (a' := ?_) #[true, false, false, false, false] rfl rfl (by kernel_rfl) (fun _ _ _ h => h) (Or.inl ⟨by rfl, ?_⟩) hHeld ?_ ?_; rotate_left; (rintro w' ⟨s0, s1, s2, s3, s4, s5⟩; go_simp; with_reducible rfl); rotate_left; (simp only [Act.put, List.setIfInBounds_toArray, List.set_cons_zero, List.set_cons_succ, i64_w, i32_w]; rfl)
    refine take_ (i := 1) (N := some 23) (v := ?_) (a' := ?_) #[true, true, false, false, false] rfl rfl (by kernel_rfl) (fun _ _ _ h => h) (Or.inl ⟨by rfl, ?_⟩) hHeld ?_ ?_; rotate_left; (rintro w' ⟨s0, s1, s2, s3, s4, s5⟩; go_simp; with_reducible rfl); rotate_left; (simp only [Act.put, List.setIfInBounds_toArray, List.set_cons_zero, List.set_cons_succ, i64_w, i32_w]; rfl)
    refine one_ (i := 2) (N := some 24) #[true, true, true, false, false] rfl rfl (by kernel_rfl) (by decide) (fun K hK => ?_)
    refine goes_ Tryd.func12 (by kernel_rfl) rfl #[.agg #[.slice A0_0 l0_0.length c0_0, .int .i64 a0_1, .int .i64 a0_2]] (by rfl) rfl rfl (ma1_ rfl) ?_
    with_reducible refine (laws_toSide.calls k _ _ l0_0 a0_1 a0_2 t227 t230 t231 _ ?side1 ?side2 A12.out).mono ?_
    (case side1 => exact kc_ HR0_0)
    (case side2 => exact HC0_0.out)
    rintro e w30 ⟨v228, rfl, ho0, hb⟩
    refine ⟨_, rfl, ?_⟩
    have HO229 := ak_ (Kd.R_lower (Kd.R_new' (Kd.R_new' ho0 (Kd.R_lt (by (with_reducible repeat (first | apply Kd.R_alloc | apply Kd.R_drewN | apply Kd.R_drew)); exact HO216.out))) (Kd.R_lt (by (with_reducible repeat (first | apply Kd.R_alloc | apply Kd.R_drewN | apply Kd.R_drew)); exact HO222.out))) (below_size hb_))
    replace HO216 := ak_ (Kd.R_elder' (by (with_reducible repeat (first | apply Kd.R_alloc | apply Kd.R_drewN | apply Kd.R_drew)); exact HO216.out) (Kd.R_base ho0) hb)
    replace HO222 := ak_ (Kd.R_elder' (by (with_reducible repeat (first | apply Kd.R_alloc | apply Kd.R_drewN | apply Kd.R_drew)); exact HO222.out) (Kd.R_base ho0) hb)
    replace BK212 := ak_ (blk_below (bk_ BK212) hb)
    replace BK225 := ak_ (blk_below (bk_ BK225) hb)
    replace HB := ak_ (below_step hb_ hb)
    (try clear hb)
    (try clear hb2)
    (try clear hk)
    (try clear hi)
    (try clear ho0)
    obtain ⟨Ao31, co31, eo31⟩ := Kd.R_slice HO229.out
    (first | subst eo31 | (injection eo31 with f1_ f2_ f3_; have f4_ := f1_.symm; have f5_ := f3_.symm; clear f1_ f2_ f3_; subst f4_; subst f5_))
    refine hK.out _ _ ⟨(blk_cell BK225.out 0).trans rfl, (blk_cell BK225.out 1).trans rfl, (blk_cell BK225.out 2).trans rfl, (blk_cell BK212.out 0).trans rfl, (blk_cell BK212.out 1).trans rfl, (blk_cell BK212.out 2).trans rfl⟩ (fun hHeld => ?_)
    clear hK K
    refine norm_ (a' := ?_) ?_ ?_
    rotate_left
    ·show Act.put _ (some 24) _ = _
     simp only [Act.put, List.setIfInBounds_toArray, List.set_cons_zero, List.set_cons_succ, i64_w, i32_w]
     rfl
    refine one_ (i := 3) (N := some 25) #[true, true, true, true, false] rfl rfl (by kernel_rfl) (by decide) (fun K hK => ?_)
    refine goes_ Tryd.func14 (by kernel_rfl) rfl #[.agg #[.slice Ao25 t220.length co25, .int .i64 t223, .int .i64 t224], .agg #[.slice Ao31 t227.length co31, .int .i64 t230, .int .i64 t231]] (by rfl) rfl rfl (ma2_ rfl rfl) ?_
    with_reducible refine (laws_eqSide.calls k _ _ t220 t223 t224 _ _ t227 t230 t231 true ⟨rfl⟩ _ ?side1 ?side2 ?side3 ?side4 A13.out).mono ?_
    (case side1 => repeat (first | exact (Kd.R_reads' HO222.out).2.2 | (with_reducible refine Kd.C_alloc ?_ _) | (with_reducible refine Kd.C_drewN ?_ _) | (with_reducible refine Kd.C_drew ?_)))
    (case side2 => exact (Kd.R_reads' HO222.out).2.1)
    (case side3 => repeat (first | exact (Kd.R_reads' HO229.out).2.2 | (with_reducible refine Kd.C_alloc ?_ _) | (with_reducible refine Kd.C_drewN ?_ _) | (with_reducible refine Kd.C_drew ?_)))
    (case side4 => exact (Kd.R_reads' HO229.out).2.1)
    rintro e w32 ⟨rfl, hb⟩
    refine ⟨_, rfl, ?_⟩
    replace HO216 := ak_ (Kd.R_below (by (with_reducible repeat (first | apply Kd.R_alloc | apply Kd.R_drewN | apply Kd.R_drew)); exact HO216.out) hb)
    replace HO222 := ak_ (Kd.R_below (by (with_reducible repeat (first | apply Kd.R_alloc | apply Kd.R_drewN | apply Kd.R_drew)); exact HO222.out) hb)
    replace HO229 := ak_ (Kd.R_below (by (with_reducible repeat (first | apply Kd.R_alloc | apply Kd.R_drewN | apply Kd.R_drew)); exact HO229.out) hb)
    replace BK212 := ak_ (blk_below (bk_ BK212) hb)
    replace BK225 := ak_ (blk_below (bk_ BK225) hb)
    replace HB := ak_ (below_step hb_ hb)
    (try clear hb)
    (try clear hb2)
    (try clear hk)
    (try clear hi)
    refine hK.out _ _ ⟨(blk_cell BK225.out 0).trans rfl, (blk_cell BK225.out 1).trans rfl, (blk_cell BK225.out 2).trans rfl, (blk_cell BK212.out 0).trans rfl, (blk_cell BK212.out 1).trans rfl, (blk_cell BK212.out 2).trans rfl⟩ (fun hHeld => ?_)
    clear hK K
    refine norm_ (a' := ?_) ?_ ?_
    rotate_left
    ·show Act.put _ (some 25) _ = _
     simp only [Act.put, List.setIfInBounds_toArray, List.set_cons_zero, List.set_cons_succ, i64_w, i32_w]
     rfl
    refine pure_ (i := 4) (N := some 26) (v := ?_) (a' := ?_) #[true, true, true, true, true] rfl rfl (by kernel_rfl) (fun _ _ _ h => h) (Or.inl ⟨by rfl, ?_⟩) ?_ ?_; rotate_left; (intro w'; go_simp; with_reducible rfl); rotate_left; (simp only [Act.put, List.setIfInBounds_toArray, List.set_cons_zero, List.set_cons_succ, i64_w, i32_w]; rfl)
    refine done_ (by kernel_rfl) ?_
    try go_wp2
    go_ret
    exact ⟨ew_, hb_⟩
   ·replace c14 := Bool.eq_false_iff.mpr c14
    subst c14
    rw [if_neg (show ¬ (false = true) by decide)] at H
    exact absurd (Option.some.inj H) (by rw [hrT.out]; decide)
  ·rw [if_neg c11] at H
   have c11b0 : (t226.toList == t219.toList) = false := beq_eq_false_iff_ne.mpr c11
   have c11b1 : (t226.toList != t219.toList) = true := bne_iff_ne.mpr c11
   exact absurd (Option.some.inj H) (by rw [hrT.out]; decide)

end Go.Proofs.YtblfoelddakelaaDoor.U
