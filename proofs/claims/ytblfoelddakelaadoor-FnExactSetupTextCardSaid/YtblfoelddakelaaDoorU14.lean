-- PRINTED by print.py (a twelfth state) out of the translation. Not trusted: Lean checks it.
import Derived.Test.YtblfoelddakelaaDoorU0
import Derived.Test.YtblfoelddakelaaDoorU5
import Derived.Test.YtblfoelddakelaaDoorU6
import Derived.Test.YtblfoelddakelaaDoorU13
namespace Go.Proofs.YtblfoelddakelaaDoor.U
open Go.RowKit Go.Proofs.YtblfoelddakelaaDoorW.PrintWords Go.Proofs.YtblfoelddakelaaDoorW.PrintLast Go.Proofs.YtblfoelddakelaaDoorW.PrintMore
attribute [local go_sem] max2_int min2_int max_two min_two max_three min_three max_four min_four   -- for this text's walks alone
set_option linter.unusedVariables false
set_option linter.unusedSimpArgs false

/-! ### laws_szSetup: function 15 -/
def laws_szSetup.f (k : Nat) (a0_0 : Int) (a0_1 : Int) (a0_2 : Int) (l0_3 : List (S97)) (l0_4 : List (S94)) (a0_5 : Int) (a0_6 : Int) (l0_7 : List (S94)) (a0_8 : Int) (a0_9 : Int) (a0_10 : Int) (a0_11 : Int) (a1 : Int) : Option (Int) := (laws_szGoalS.f k l0_3 a1).bind fun t240 => (if t240 < 0 then (some (-1)) else ((laws_szBehave.f l0_4 a0_5 a0_6 l0_7 a0_8 a0_9 a0_10 a0_11 t240).bind fun t241 => (if t241 < 0 then (some (-1)) else (some t241))))
theorem laws_szSetup.mono : ∀ a0 a1 a2 a3 a4 a5 a6 a7 a8 a9 a10 a11 a12 k, LeO (laws_szSetup.f k a0 a1 a2 a3 a4 a5 a6 a7 a8 a9 a10 a11 a12) (laws_szSetup.f (k + 1) a0 a1 a2 a3 a4 a5 a6 a7 a8 a9 a10 a11 a12) := by
  intro a0 a1 a2 a3 a4 a5 a6 a7 a8 a9 a10 a11 a12 k
  unfold laws_szSetup.f
  repeat' with_reducible first | exact laws_szGoalS.mono _ _ _ | exact LeO.refl _ | exact LeO.none _ | refine LeO.ite ?_ ?_ | refine LeO.bind ?_ (fun _ => ?_)
set_option maxHeartbeats 8000000 in
set_option maxRecDepth 100000 in
theorem laws_szSetup.calls (k : Nat) (a0_0 : Int) (a0_1 : Int) (a0_2 : Int) (A0_3 : Option Addr) (c0_3 : Nat) (l0_3 : List (S97)) (A0_4 : Option Addr) (c0_4 : Nat) (l0_4 : List (S94)) (a0_5 : Int) (a0_6 : Int) (A0_7 : Option Addr) (c0_7 : Nat) (l0_7 : List (S94)) (a0_8 : Int) (a0_9 : Int) (a0_10 : Int) (a0_11 : Int) (a1 : Int) (r : Int) (w : World) (hr0_3 : Kd.C k97 w A0_3 l0_3.length l0_3) (hc0_3 : l0_3.length ≤ c0_3) (hr0_4 : Kd.C k94 w A0_4 l0_4.length l0_4) (hc0_4 : l0_4.length ≤ c0_4) (hr0_7 : Kd.C k94 w A0_7 l0_7.length l0_7) (hc0_7 : l0_7.length ≤ c0_7) (h : laws_szSetup.f k a0_0 a0_1 a0_2 l0_3 l0_4 a0_5 a0_6 l0_7 a0_8 a0_9 a0_10 a0_11 a1 = some r) :
  Calls Tryd.prog 15 #[.agg #[.int .i64 a0_0, .int .i64 a0_1, .int .i64 a0_2, .slice A0_3 l0_3.length c0_3, .slice A0_4 l0_4.length c0_4, .int .i64 a0_5, .int .i64 a0_6, .slice A0_7 l0_7.length c0_7, .int .i64 a0_8, .int .i64 a0_9, .int .i64 a0_10, .int .i64 a0_11], .int .i64 a1] w fun e w' => e = .returned (.int .i64 r) ∧ Below w.heap.size w w' := by
 have hu45 := Tryd.underlying45
 have hu43 := Tryd.underlying43
 have HR0_3 := Aside0.mk hr0_3
 have HC0_3 := Aside0.mk hc0_3
 clear hr0_3 hc0_3
 have HR0_4 := Aside0.mk hr0_4
 have HC0_4 := Aside0.mk hc0_4
 clear hr0_4 hc0_4
 have HR0_7 := Aside0.mk hr0_7
 have HC0_7 := Aside0.mk hc0_7
 clear hr0_7 hc0_7
 have HB := Aside0.mk (Below.refl w.heap.size w)
 have H : ((laws_szGoalS.f k l0_3 a1).bind fun t240 => (if t240 < 0 then (some (-1)) else ((laws_szBehave.f l0_4 a0_5 a0_6 l0_7 a0_8 a0_9 a0_10 a0_11 t240).bind fun t241 => (if t241 < 0 then (some (-1)) else (some t241))))) = some r := h
 clear h
 replace H := Option.bind_eq_some_iff.mp H
 obtain ⟨t240, A30, H⟩ := H
 replace H : (if t240 < 0 then (some (-1)) else ((laws_szBehave.f l0_4 a0_5 a0_6 l0_7 a0_8 a0_9 a0_10 a0_11 t240).bind fun t241 => (if t241 < 0 then (some (-1)) else (some t241)))) = some r := H
 have A3 := Aside0.mk A30
 clear A30
 by_cases c4 : t240 < 0
 ·rw [if_pos c4] at H
  have c4b0 : decide (t240 < 0) = true := decide_eq_true c4
  clear c4
  obtain rfl := Option.some.inj H
  go_enter Tryd.func15, Tryd.ntmps15
  go_wp2_with (first | ((with_reducible refine gate_dst (N := 2) rfl ?_); refine be_ (N := 2) (cs := #[.int .i64 a0_0, .int .i64 a0_1, .int .i64 a0_2, .slice A0_3 l0_3.length c0_3, .slice A0_4 l0_4.length c0_4, .int .i64 a0_5, .int .i64 a0_6, .slice A0_7 l0_7.length c0_7, .int .i64 a0_8, .int .i64 a0_9, .int .i64 a0_10, .int .i64 a0_11]) (t := 45) ?_; intro gb239 hg w5 hbox hb; have BK239 := ak_ hbox; have GW239 := ak_ ((gs_ hg : w.heap.size ≤ gb239)); have GE239 := ak_ ((gs_ hg : w.heap.size ≤ gb239)); replace HB := ak_ (below_step hb_ hb); clear hb hbox hg; obtain ⟨hcz6_0, hcz6_1, hcz6_2, hcz6_3, hcz6_4, hcz6_5, hcz6_6, hcz6_7, hcz6_8, hcz6_9, hcz6_10, hcz6_11, hfz6_0, hfz6_1, hfz6_2, hfz6_3, hfz6_4, hfz6_5, hfz6_6, hfz6_7, hfz6_8, hfz6_9, hfz6_10, hfz6_11⟩ := bc12_ BK239.out) | ((with_reducible refine gate_callee (f := 32) rfl ?_); refine goesL_ (some 8) rfl rfl Tryd.func32 (by kernel_rfl) rfl #[.slice A0_3 l0_3.length c0_3, .int .i64 a1] rfl (ma2_ rfl rfl) ?_; (with_reducible refine (laws_szGoalS.calls k _ _ l0_3 a1 t240 _ ?side1 ?side2 A3.out).mono ?_); (case side1 => exact kc_ HR0_3); (case side2 => exact HC0_3.out); rintro e w7 ⟨rfl, hb⟩; refine ⟨_, rfl, ?_⟩; replace BK239 := ak_ (blk_below (bk_ BK239) hb); replace HB := ak_ (below_step hb_ hb); (try clear hb)))
  go_ret
  exact ⟨ew_, hb_⟩
 ·rw [if_neg c4] at H
  have c4b0 : decide (t240 < 0) = false := decide_eq_false c4
  clear c4
  replace H := Option.bind_eq_some_iff.mp H
  obtain ⟨t241, A80, H⟩ := H
  replace H : (if t241 < 0 then (some (-1)) else (some t241)) = some r := H
  have A8 := Aside0.mk A80
  clear A80
  by_cases c9 : t241 < 0
  ·rw [if_pos c9] at H
   have c9b0 : decide (t241 < 0) = true := decide_eq_true c9
   clear c9
   obtain rfl := Option.some.inj H
   go_enter Tryd.func15, Tryd.ntmps15
   go_wp2_with (first | ((with_reducible refine gate_dst (N := 2) rfl ?_); refine be_ (N := 2) (cs := #[.int .i64 a0_0, .int .i64 a0_1, .int .i64 a0_2, .slice A0_3 l0_3.length c0_3, .slice A0_4 l0_4.length c0_4, .int .i64 a0_5, .int .i64 a0_6, .slice A0_7 l0_7.length c0_7, .int .i64 a0_8, .int .i64 a0_9, .int .i64 a0_10, .int .i64 a0_11]) (t := 45) ?_; intro gb239 hg w10 hbox hb; have BK239 := ak_ hbox; have GW239 := ak_ ((gs_ hg : w.heap.size ≤ gb239)); have GE239 := ak_ ((gs_ hg : w.heap.size ≤ gb239)); replace HB := ak_ (below_step hb_ hb); clear hb hbox hg; obtain ⟨hcz11_0, hcz11_1, hcz11_2, hcz11_3, hcz11_4, hcz11_5, hcz11_6, hcz11_7, hcz11_8, hcz11_9, hcz11_10, hcz11_11, hfz11_0, hfz11_1, hfz11_2, hfz11_3, hfz11_4, hfz11_5, hfz11_6, hfz11_7, hfz11_8, hfz11_9, hfz11_10, hfz11_11⟩ := bc12_ BK239.out) | ((with_reducible refine gate_callee (f := 32) rfl ?_); refine goesL_ (some 8) rfl rfl Tryd.func32 (by kernel_rfl) rfl #[.slice A0_3 l0_3.length c0_3, .int .i64 a1] rfl (ma2_ rfl rfl) ?_; (with_reducible refine (laws_szGoalS.calls k _ _ l0_3 a1 t240 _ ?side1 ?side2 A3.out).mono ?_); (case side1 => exact kc_ HR0_3); (case side2 => exact HC0_3.out); rintro e w12 ⟨rfl, hb⟩; refine ⟨_, rfl, ?_⟩; replace BK239 := ak_ (blk_below (bk_ BK239) hb); replace HB := ak_ (below_step hb_ hb); (try clear hb); obtain ⟨hcz13_0, hcz13_1, hcz13_2, hcz13_3, hcz13_4, hcz13_5, hcz13_6, hcz13_7, hcz13_8, hcz13_9, hcz13_10, hcz13_11, hfz13_0, hfz13_1, hfz13_2, hfz13_3, hfz13_4, hfz13_5, hfz13_6, hfz13_7, hfz13_8, hfz13_9, hfz13_10, hfz13_11⟩ := bc12_ BK239.out) | ((with_reducible refine gate_callee (f := 33) rfl ?_); refine goesL_ (some 14) rfl rfl Tryd.func33 (by kernel_rfl) rfl #[.agg #[.slice A0_4 l0_4.length c0_4, .int .i64 a0_5, .int .i64 a0_6, .slice A0_7 l0_7.length c0_7, .int .i64 a0_8, .int .i64 a0_9, .int .i64 a0_10, .int .i64 a0_11], .int .i64 t240] rfl (ma2_ rfl rfl) ?_; (with_reducible refine (laws_szBehave.calls _ _ l0_4 a0_5 a0_6 _ _ l0_7 a0_8 a0_9 a0_10 a0_11 t240 t241 _ ?side1 ?side2 ?side3 ?side4 A8.out).mono ?_); (case side1 => exact kc_ HR0_4); (case side2 => exact HC0_4.out); (case side3 => exact kc_ HR0_7); (case side4 => exact HC0_7.out); rintro e w14 ⟨rfl, hb⟩; refine ⟨_, rfl, ?_⟩; replace BK239 := ak_ (blk_below (bk_ BK239) hb); replace HB := ak_ (below_step hb_ hb); (try clear hb)))
   go_ret
   exact ⟨ew_, hb_⟩
  ·rw [if_neg c9] at H
   have c9b0 : decide (t241 < 0) = false := decide_eq_false c9
   clear c9
   obtain rfl := Option.some.inj H
   go_enter Tryd.func15, Tryd.ntmps15
   go_wp2_with (first | ((with_reducible refine gate_dst (N := 2) rfl ?_); refine be_ (N := 2) (cs := #[.int .i64 a0_0, .int .i64 a0_1, .int .i64 a0_2, .slice A0_3 l0_3.length c0_3, .slice A0_4 l0_4.length c0_4, .int .i64 a0_5, .int .i64 a0_6, .slice A0_7 l0_7.length c0_7, .int .i64 a0_8, .int .i64 a0_9, .int .i64 a0_10, .int .i64 a0_11]) (t := 45) ?_; intro gb239 hg w15 hbox hb; have BK239 := ak_ hbox; have GW239 := ak_ ((gs_ hg : w.heap.size ≤ gb239)); have GE239 := ak_ ((gs_ hg : w.heap.size ≤ gb239)); replace HB := ak_ (below_step hb_ hb); clear hb hbox hg; obtain ⟨hcz16_0, hcz16_1, hcz16_2, hcz16_3, hcz16_4, hcz16_5, hcz16_6, hcz16_7, hcz16_8, hcz16_9, hcz16_10, hcz16_11, hfz16_0, hfz16_1, hfz16_2, hfz16_3, hfz16_4, hfz16_5, hfz16_6, hfz16_7, hfz16_8, hfz16_9, hfz16_10, hfz16_11⟩ := bc12_ BK239.out) | ((with_reducible refine gate_callee (f := 32) rfl ?_); refine goesL_ (some 8) rfl rfl Tryd.func32 (by kernel_rfl) rfl #[.slice A0_3 l0_3.length c0_3, .int .i64 a1] rfl (ma2_ rfl rfl) ?_; (with_reducible refine (laws_szGoalS.calls k _ _ l0_3 a1 t240 _ ?side1 ?side2 A3.out).mono ?_); (case side1 => exact kc_ HR0_3); (case side2 => exact HC0_3.out); rintro e w17 ⟨rfl, hb⟩; refine ⟨_, rfl, ?_⟩; replace BK239 := ak_ (blk_below (bk_ BK239) hb); replace HB := ak_ (below_step hb_ hb); (try clear hb); obtain ⟨hcz18_0, hcz18_1, hcz18_2, hcz18_3, hcz18_4, hcz18_5, hcz18_6, hcz18_7, hcz18_8, hcz18_9, hcz18_10, hcz18_11, hfz18_0, hfz18_1, hfz18_2, hfz18_3, hfz18_4, hfz18_5, hfz18_6, hfz18_7, hfz18_8, hfz18_9, hfz18_10, hfz18_11⟩ := bc12_ BK239.out) | ((with_reducible refine gate_callee (f := 33) rfl ?_); refine goesL_ (some 14) rfl rfl Tryd.func33 (by kernel_rfl) rfl #[.agg #[.slice A0_4 l0_4.length c0_4, .int .i64 a0_5, .int .i64 a0_6, .slice A0_7 l0_7.length c0_7, .int .i64 a0_8, .int .i64 a0_9, .int .i64 a0_10, .int .i64 a0_11], .int .i64 t240] rfl (ma2_ rfl rfl) ?_; (with_reducible refine (laws_szBehave.calls _ _ l0_4 a0_5 a0_6 _ _ l0_7 a0_8 a0_9 a0_10 a0_11 t240 t241 _ ?side1 ?side2 ?side3 ?side4 A8.out).mono ?_); (case side1 => exact kc_ HR0_4); (case side2 => exact HC0_4.out); (case side3 => exact kc_ HR0_7); (case side4 => exact HC0_7.out); rintro e w19 ⟨rfl, hb⟩; refine ⟨_, rfl, ?_⟩; replace BK239 := ak_ (blk_below (bk_ BK239) hb); replace HB := ak_ (below_step hb_ hb); (try clear hb)))
   go_ret
   exact ⟨ew_, hb_⟩

/-! ### spec_RulesOk: function 57 -/
def spec_RulesOk.f (a0_0 : Int) (a0_1 : Int) (a0_2 : Int) : Option (Bool) := (spec_l01In.f a0_0 0 1000).bind fun t243 => (if t243 = true then ((spec_l01In.f a0_1 0 1000).bind fun t244 => (if t244 = true then ((spec_l01In.f a0_2 0 1000).bind fun t245 => (some t245)) else (some false))) else (some false))
set_option maxHeartbeats 8000000 in
set_option maxRecDepth 100000 in
theorem spec_RulesOk.calls (a0_0 : Int) (a0_1 : Int) (a0_2 : Int) (r : Bool) (w : World) (h : spec_RulesOk.f a0_0 a0_1 a0_2 = some r) :
  Calls Tryd.prog 57 #[.agg #[.int .i64 a0_0, .int .i64 a0_1, .int .i64 a0_2]] w fun e w' => e = .returned (.bool r) ∧ Below w.heap.size w w' := by
 have hu49 := Tryd.underlying49
 have HB := Aside0.mk (Below.refl w.heap.size w)
 have H : ((spec_l01In.f a0_0 0 1000).bind fun t243 => (if t243 = true then ((spec_l01In.f a0_1 0 1000).bind fun t244 => (if t244 = true then ((spec_l01In.f a0_2 0 1000).bind fun t245 => (some t245)) else (some false))) else (some false))) = some r := h
 clear h
 replace H := Option.bind_eq_some_iff.mp H
 obtain ⟨t243, A20, H⟩ := H
 replace H : (if t243 = true then ((spec_l01In.f a0_1 0 1000).bind fun t244 => (if t244 = true then ((spec_l01In.f a0_2 0 1000).bind fun t245 => (some t245)) else (some false))) else (some false)) = some r := H
 have A2 := Aside0.mk A20
 clear A20
 by_cases c3 : t243 = true
 ·subst c3
  rw [if_pos rfl] at H
  replace H := Option.bind_eq_some_iff.mp H
  obtain ⟨t244, A40, H⟩ := H
  replace H : (if t244 = true then ((spec_l01In.f a0_2 0 1000).bind fun t245 => (some t245)) else (some false)) = some r := H
  have A4 := Aside0.mk A40
  clear A40
  by_cases c5 : t244 = true
  ·subst c5
   rw [if_pos rfl] at H
   replace H := Option.bind_eq_some_iff.mp H
   obtain ⟨t245, A60, H⟩ := H
   replace H : (some t245) = some r := H
   have A6 := Aside0.mk A60
   clear A60
   obtain rfl := Option.some.inj H
   go_enter Tryd.func57, Tryd.ntmps57
   go_wp2_with (first | ((with_reducible refine gate_dst (N := 1) rfl ?_); refine be_ (N := 1) (cs := #[.int .i64 a0_0, .int .i64 a0_1, .int .i64 a0_2]) (t := 49) ?_; intro gb242 hg w7 hbox hb; have BK242 := ak_ hbox; have GW242 := ak_ ((gs_ hg : w.heap.size ≤ gb242)); have GE242 := ak_ ((gs_ hg : w.heap.size ≤ gb242)); replace HB := ak_ (below_step hb_ hb); clear hb hbox hg; obtain ⟨hcz8_0, hcz8_1, hcz8_2, hfz8_0, hfz8_1, hfz8_2⟩ := bc3_ BK242.out) | ((with_reducible refine gate_callee (f := 53) rfl ?_); refine goesL_ (some 5) rfl rfl Tryd.func53 (by kernel_rfl) rfl #[.int .i64 a0_0, .int .i64 0, .int .i64 1000] rfl (ma3_ rfl rfl rfl) ?_; (with_reducible refine (spec_l01In.calls a0_0 0 1000 true _ A2.out).mono ?_); rintro e w' ⟨rfl, ⟨nd, rfl⟩⟩; refine ⟨_, rfl, ?_⟩) | (go_at_call 53; (with_reducible refine (spec_l01In.calls a0_1 0 1000 true _ A4.out).mono ?_); rintro e w' ⟨rfl, ⟨nd, rfl⟩⟩) | (go_at_call 53; (with_reducible refine (spec_l01In.calls a0_2 0 1000 t245 _ A6.out).mono ?_); rintro e w' ⟨rfl, ⟨nd, rfl⟩⟩))
   go_ret
   exact ⟨ew_, hb_⟩
  ·replace c5 := Bool.eq_false_iff.mpr c5
   subst c5
   rw [if_neg (show ¬ (false = true) by decide)] at H
   obtain rfl := Option.some.inj H
   go_enter Tryd.func57, Tryd.ntmps57
   go_wp2_with (first | ((with_reducible refine gate_dst (N := 1) rfl ?_); refine be_ (N := 1) (cs := #[.int .i64 a0_0, .int .i64 a0_1, .int .i64 a0_2]) (t := 49) ?_; intro gb242 hg w9 hbox hb; have BK242 := ak_ hbox; have GW242 := ak_ ((gs_ hg : w.heap.size ≤ gb242)); have GE242 := ak_ ((gs_ hg : w.heap.size ≤ gb242)); replace HB := ak_ (below_step hb_ hb); clear hb hbox hg; obtain ⟨hcz10_0, hcz10_1, hcz10_2, hfz10_0, hfz10_1, hfz10_2⟩ := bc3_ BK242.out) | ((with_reducible refine gate_callee (f := 53) rfl ?_); refine goesL_ (some 5) rfl rfl Tryd.func53 (by kernel_rfl) rfl #[.int .i64 a0_0, .int .i64 0, .int .i64 1000] rfl (ma3_ rfl rfl rfl) ?_; (with_reducible refine (spec_l01In.calls a0_0 0 1000 true _ A2.out).mono ?_); rintro e w' ⟨rfl, ⟨nd, rfl⟩⟩; refine ⟨_, rfl, ?_⟩) | (go_at_call 53; (with_reducible refine (spec_l01In.calls a0_1 0 1000 false _ A4.out).mono ?_); rintro e w' ⟨rfl, ⟨nd, rfl⟩⟩))
   go_ret
   exact ⟨ew_, hb_⟩
 ·replace c3 := Bool.eq_false_iff.mpr c3
  subst c3
  rw [if_neg (show ¬ (false = true) by decide)] at H
  obtain rfl := Option.some.inj H
  go_enter Tryd.func57, Tryd.ntmps57
  go_wp2_with (first | ((with_reducible refine gate_dst (N := 1) rfl ?_); refine be_ (N := 1) (cs := #[.int .i64 a0_0, .int .i64 a0_1, .int .i64 a0_2]) (t := 49) ?_; intro gb242 hg w11 hbox hb; have BK242 := ak_ hbox; have GW242 := ak_ ((gs_ hg : w.heap.size ≤ gb242)); have GE242 := ak_ ((gs_ hg : w.heap.size ≤ gb242)); replace HB := ak_ (below_step hb_ hb); clear hb hbox hg; obtain ⟨hcz12_0, hcz12_1, hcz12_2, hfz12_0, hfz12_1, hfz12_2⟩ := bc3_ BK242.out) | ((with_reducible refine gate_callee (f := 53) rfl ?_); refine goesL_ (some 5) rfl rfl Tryd.func53 (by kernel_rfl) rfl #[.int .i64 a0_0, .int .i64 0, .int .i64 1000] rfl (ma3_ rfl rfl rfl) ?_; (with_reducible refine (spec_l01In.calls a0_0 0 1000 false _ A2.out).mono ?_); rintro e w' ⟨rfl, ⟨nd, rfl⟩⟩; refine ⟨_, rfl, ?_⟩))
  go_ret
  exact ⟨ew_, hb_⟩

/-! ### spec_BehaveOk: function 58 -/
def spec_BehaveOk.f (k : Nat) (l0_0 : List (S67)) (a0_1 : Int) (a0_2 : Int) (l0_3 : List (S67)) (a0_4 : Int) (a0_5 : Int) (a0_6 : Int) (a0_7 : Int) : Option (Bool) := (spec_SideOk.f k l0_0 a0_1 a0_2).bind fun t247 => (if t247 = true then ((spec_SideOk.f k l0_3 a0_4 a0_5).bind fun t248 => (if t248 = true then ((spec_l01In.f a0_7 0 1000).bind fun t249 => (if t249 = true then ((spec_l01In.f a0_6 0 a0_7).bind fun t250 => (some t250)) else (some false))) else (some false))) else (some false))
theorem spec_BehaveOk.mono : ∀ a0 a1 a2 a3 a4 a5 a6 a7 k, LeO (spec_BehaveOk.f k a0 a1 a2 a3 a4 a5 a6 a7) (spec_BehaveOk.f (k + 1) a0 a1 a2 a3 a4 a5 a6 a7) := by
  intro a0 a1 a2 a3 a4 a5 a6 a7 k
  unfold spec_BehaveOk.f
  repeat' with_reducible first | exact spec_SideOk.mono _ _ _ _ | exact LeO.refl _ | exact LeO.none _ | refine LeO.ite ?_ ?_ | refine LeO.bind ?_ (fun _ => ?_)
set_option maxHeartbeats 8000000 in
set_option maxRecDepth 100000 in
theorem spec_BehaveOk.calls (k : Nat) (A0_0 : Option Addr) (c0_0 : Nat) (l0_0 : List (S67)) (a0_1 : Int) (a0_2 : Int) (A0_3 : Option Addr) (c0_3 : Nat) (l0_3 : List (S67)) (a0_4 : Int) (a0_5 : Int) (a0_6 : Int) (a0_7 : Int) (r : Bool) (w : World) (hr0_0 : Kd.C k67 w A0_0 l0_0.length l0_0) (hc0_0 : l0_0.length ≤ c0_0) (hr0_3 : Kd.C k67 w A0_3 l0_3.length l0_3) (hc0_3 : l0_3.length ≤ c0_3) (h : spec_BehaveOk.f k l0_0 a0_1 a0_2 l0_3 a0_4 a0_5 a0_6 a0_7 = some r) :
  Calls Tryd.prog 58 #[.agg #[.slice A0_0 l0_0.length c0_0, .int .i64 a0_1, .int .i64 a0_2, .slice A0_3 l0_3.length c0_3, .int .i64 a0_4, .int .i64 a0_5, .int .i64 a0_6, .int .i64 a0_7]] w fun e w' => e = .returned (.bool r) ∧ Below w.heap.size w w' := by
 have hu52 := Tryd.underlying52
 have hu35 := Tryd.underlying35
 have HR0_0 := Aside0.mk hr0_0
 have HC0_0 := Aside0.mk hc0_0
 clear hr0_0 hc0_0
 have HR0_3 := Aside0.mk hr0_3
 have HC0_3 := Aside0.mk hc0_3
 clear hr0_3 hc0_3
 have HB := Aside0.mk (Below.refl w.heap.size w)
 have H : ((spec_SideOk.f k l0_0 a0_1 a0_2).bind fun t247 => (if t247 = true then ((spec_SideOk.f k l0_3 a0_4 a0_5).bind fun t248 => (if t248 = true then ((spec_l01In.f a0_7 0 1000).bind fun t249 => (if t249 = true then ((spec_l01In.f a0_6 0 a0_7).bind fun t250 => (some t250)) else (some false))) else (some false))) else (some false))) = some r := h
 clear h
 replace H := Option.bind_eq_some_iff.mp H
 obtain ⟨t247, A20, H⟩ := H
 replace H : (if t247 = true then ((spec_SideOk.f k l0_3 a0_4 a0_5).bind fun t248 => (if t248 = true then ((spec_l01In.f a0_7 0 1000).bind fun t249 => (if t249 = true then ((spec_l01In.f a0_6 0 a0_7).bind fun t250 => (some t250)) else (some false))) else (some false))) else (some false)) = some r := H
 have A2 := Aside0.mk A20
 clear A20
 by_cases c3 : t247 = true
 ·subst c3
  rw [if_pos rfl] at H
  replace H := Option.bind_eq_some_iff.mp H
  obtain ⟨t248, A40, H⟩ := H
  replace H : (if t248 = true then ((spec_l01In.f a0_7 0 1000).bind fun t249 => (if t249 = true then ((spec_l01In.f a0_6 0 a0_7).bind fun t250 => (some t250)) else (some false))) else (some false)) = some r := H
  have A4 := Aside0.mk A40
  clear A40
  by_cases c5 : t248 = true
  ·subst c5
   rw [if_pos rfl] at H
   replace H := Option.bind_eq_some_iff.mp H
   obtain ⟨t249, A60, H⟩ := H
   replace H : (if t249 = true then ((spec_l01In.f a0_6 0 a0_7).bind fun t250 => (some t250)) else (some false)) = some r := H
   have A6 := Aside0.mk A60
   clear A60
   by_cases c7 : t249 = true
   ·subst c7
    rw [if_pos rfl] at H
    replace H := Option.bind_eq_some_iff.mp H
    obtain ⟨t250, A80, H⟩ := H
    replace H : (some t250) = some r := H
    have A8 := Aside0.mk A80
    clear A80
    obtain rfl := Option.some.inj H
    go_enter Tryd.func58, Tryd.ntmps58
    go_wp2_with (first | ((with_reducible refine gate_dst (N := 1) rfl ?_); refine be_ (N := 1) (cs := #[.slice A0_0 l0_0.length c0_0, .int .i64 a0_1, .int .i64 a0_2, .slice A0_3 l0_3.length c0_3, .int .i64 a0_4, .int .i64 a0_5, .int .i64 a0_6, .int .i64 a0_7]) (t := 52) ?_; intro gb246 hg w9 hbox hb; have BK246 := ak_ hbox; have GW246 := ak_ ((gs_ hg : w.heap.size ≤ gb246)); have GE246 := ak_ ((gs_ hg : w.heap.size ≤ gb246)); replace HB := ak_ (below_step hb_ hb); clear hb hbox hg; obtain ⟨hcz10_0, hcz10_1, hcz10_2, hcz10_3, hcz10_4, hcz10_5, hcz10_6, hcz10_7, hfz10_0, hfz10_1, hfz10_2, hfz10_3, hfz10_4, hfz10_5, hfz10_6, hfz10_7⟩ := bc8_ BK246.out) | ((with_reducible refine gate_callee (f := 28) rfl ?_); refine goesL_ (some 5) rfl rfl Tryd.func28 (by kernel_rfl) rfl #[.agg #[.slice A0_0 l0_0.length c0_0, .int .i64 a0_1, .int .i64 a0_2]] rfl (ma1_ rfl) ?_; (with_reducible refine (spec_SideOk.calls k _ _ l0_0 a0_1 a0_2 true _ ?side1 ?side2 A2.out).mono ?_); (case side1 => exact kc_ HR0_0); (case side2 => exact HC0_0.out); rintro e w11 ⟨rfl, hb⟩; refine ⟨_, rfl, ?_⟩; replace BK246 := ak_ (blk_below (bk_ BK246) hb); replace HB := ak_ (below_step hb_ hb); (try clear hb); obtain ⟨hcz12_0, hcz12_1, hcz12_2, hcz12_3, hcz12_4, hcz12_5, hcz12_6, hcz12_7, hfz12_0, hfz12_1, hfz12_2, hfz12_3, hfz12_4, hfz12_5, hfz12_6, hfz12_7⟩ := bc8_ BK246.out) | (go_at_call 28; (with_reducible refine (spec_SideOk.calls k _ _ l0_3 a0_4 a0_5 true _ ?side1 ?side2 A4.out).mono ?_); (case side1 => exact kc_ HR0_3); (case side2 => exact HC0_3.out); rintro e w13 ⟨rfl, hb⟩; replace BK246 := ak_ (blk_below (bk_ BK246) hb); replace HB := ak_ (below_step hb_ hb); (try clear hb); obtain ⟨hcz14_0, hcz14_1, hcz14_2, hcz14_3, hcz14_4, hcz14_5, hcz14_6, hcz14_7, hfz14_0, hfz14_1, hfz14_2, hfz14_3, hfz14_4, hfz14_5, hfz14_6, hfz14_7⟩ := bc8_ BK246.out) | (go_at_call 53; (with_reducible refine (spec_l01In.calls a0_7 0 1000 true _ A6.out).mono ?_); rintro e w' ⟨rfl, ⟨nd, rfl⟩⟩) | (go_at_call 53; (with_reducible refine (spec_l01In.calls a0_6 0 a0_7 t250 _ A8.out).mono ?_); rintro e w' ⟨rfl, ⟨nd, rfl⟩⟩))
    go_ret
    exact ⟨ew_, hb_⟩
   ·replace c7 := Bool.eq_false_iff.mpr c7
    subst c7
    rw [if_neg (show ¬ (false = true) by decide)] at H
    obtain rfl := Option.some.inj H
    go_enter Tryd.func58, Tryd.ntmps58
    go_wp2_with (first | ((with_reducible refine gate_dst (N := 1) rfl ?_); refine be_ (N := 1) (cs := #[.slice A0_0 l0_0.length c0_0, .int .i64 a0_1, .int .i64 a0_2, .slice A0_3 l0_3.length c0_3, .int .i64 a0_4, .int .i64 a0_5, .int .i64 a0_6, .int .i64 a0_7]) (t := 52) ?_; intro gb246 hg w15 hbox hb; have BK246 := ak_ hbox; have GW246 := ak_ ((gs_ hg : w.heap.size ≤ gb246)); have GE246 := ak_ ((gs_ hg : w.heap.size ≤ gb246)); replace HB := ak_ (below_step hb_ hb); clear hb hbox hg; obtain ⟨hcz16_0, hcz16_1, hcz16_2, hcz16_3, hcz16_4, hcz16_5, hcz16_6, hcz16_7, hfz16_0, hfz16_1, hfz16_2, hfz16_3, hfz16_4, hfz16_5, hfz16_6, hfz16_7⟩ := bc8_ BK246.out) | ((with_reducible refine gate_callee (f := 28) rfl ?_); refine goesL_ (some 5) rfl rfl Tryd.func28 (by kernel_rfl) rfl #[.agg #[.slice A0_0 l0_0.length c0_0, .int .i64 a0_1, .int .i64 a0_2]] rfl (ma1_ rfl) ?_; (with_reducible refine (spec_SideOk.calls k _ _ l0_0 a0_1 a0_2 true _ ?side1 ?side2 A2.out).mono ?_); (case side1 => exact kc_ HR0_0); (case side2 => exact HC0_0.out); rintro e w17 ⟨rfl, hb⟩; refine ⟨_, rfl, ?_⟩; replace BK246 := ak_ (blk_below (bk_ BK246) hb); replace HB := ak_ (below_step hb_ hb); (try clear hb); obtain ⟨hcz18_0, hcz18_1, hcz18_2, hcz18_3, hcz18_4, hcz18_5, hcz18_6, hcz18_7, hfz18_0, hfz18_1, hfz18_2, hfz18_3, hfz18_4, hfz18_5, hfz18_6, hfz18_7⟩ := bc8_ BK246.out) | (go_at_call 28; (with_reducible refine (spec_SideOk.calls k _ _ l0_3 a0_4 a0_5 true _ ?side1 ?side2 A4.out).mono ?_); (case side1 => exact kc_ HR0_3); (case side2 => exact HC0_3.out); rintro e w19 ⟨rfl, hb⟩; replace BK246 := ak_ (blk_below (bk_ BK246) hb); replace HB := ak_ (below_step hb_ hb); (try clear hb); obtain ⟨hcz20_0, hcz20_1, hcz20_2, hcz20_3, hcz20_4, hcz20_5, hcz20_6, hcz20_7, hfz20_0, hfz20_1, hfz20_2, hfz20_3, hfz20_4, hfz20_5, hfz20_6, hfz20_7⟩ := bc8_ BK246.out) | (go_at_call 53; (with_reducible refine (spec_l01In.calls a0_7 0 1000 false _ A6.out).mono ?_); rintro e w' ⟨rfl, ⟨nd, rfl⟩⟩))
    go_ret
    exact ⟨ew_, hb_⟩
  ·replace c5 := Bool.eq_false_iff.mpr c5
   subst c5
   rw [if_neg (show ¬ (false = true) by decide)] at H
   obtain rfl := Option.some.inj H
   go_enter Tryd.func58, Tryd.ntmps58
   go_wp2_with (first | ((with_reducible refine gate_dst (N := 1) rfl ?_); refine be_ (N := 1) (cs := #[.slice A0_0 l0_0.length c0_0, .int .i64 a0_1, .int .i64 a0_2, .slice A0_3 l0_3.length c0_3, .int .i64 a0_4, .int .i64 a0_5, .int .i64 a0_6, .int .i64 a0_7]) (t := 52) ?_; intro gb246 hg w21 hbox hb; have BK246 := ak_ hbox; have GW246 := ak_ ((gs_ hg : w.heap.size ≤ gb246)); have GE246 := ak_ ((gs_ hg : w.heap.size ≤ gb246)); replace HB := ak_ (below_step hb_ hb); clear hb hbox hg; obtain ⟨hcz22_0, hcz22_1, hcz22_2, hcz22_3, hcz22_4, hcz22_5, hcz22_6, hcz22_7, hfz22_0, hfz22_1, hfz22_2, hfz22_3, hfz22_4, hfz22_5, hfz22_6, hfz22_7⟩ := bc8_ BK246.out) | ((with_reducible refine gate_callee (f := 28) rfl ?_); refine goesL_ (some 5) rfl rfl Tryd.func28 (by kernel_rfl) rfl #[.agg #[.slice A0_0 l0_0.length c0_0, .int .i64 a0_1, .int .i64 a0_2]] rfl (ma1_ rfl) ?_; (with_reducible refine (spec_SideOk.calls k _ _ l0_0 a0_1 a0_2 true _ ?side1 ?side2 A2.out).mono ?_); (case side1 => exact kc_ HR0_0); (case side2 => exact HC0_0.out); rintro e w23 ⟨rfl, hb⟩; refine ⟨_, rfl, ?_⟩; replace BK246 := ak_ (blk_below (bk_ BK246) hb); replace HB := ak_ (below_step hb_ hb); (try clear hb); obtain ⟨hcz24_0, hcz24_1, hcz24_2, hcz24_3, hcz24_4, hcz24_5, hcz24_6, hcz24_7, hfz24_0, hfz24_1, hfz24_2, hfz24_3, hfz24_4, hfz24_5, hfz24_6, hfz24_7⟩ := bc8_ BK246.out) | (go_at_call 28; (with_reducible refine (spec_SideOk.calls k _ _ l0_3 a0_4 a0_5 false _ ?side1 ?side2 A4.out).mono ?_); (case side1 => exact kc_ HR0_3); (case side2 => exact HC0_3.out); rintro e w25 ⟨rfl, hb⟩; replace BK246 := ak_ (blk_below (bk_ BK246) hb); replace HB := ak_ (below_step hb_ hb); (try clear hb)))
   go_ret
   exact ⟨ew_, hb_⟩
 ·replace c3 := Bool.eq_false_iff.mpr c3
  subst c3
  rw [if_neg (show ¬ (false = true) by decide)] at H
  obtain rfl := Option.some.inj H
  go_enter Tryd.func58, Tryd.ntmps58
  go_wp2_with (first | ((with_reducible refine gate_dst (N := 1) rfl ?_); refine be_ (N := 1) (cs := #[.slice A0_0 l0_0.length c0_0, .int .i64 a0_1, .int .i64 a0_2, .slice A0_3 l0_3.length c0_3, .int .i64 a0_4, .int .i64 a0_5, .int .i64 a0_6, .int .i64 a0_7]) (t := 52) ?_; intro gb246 hg w26 hbox hb; have BK246 := ak_ hbox; have GW246 := ak_ ((gs_ hg : w.heap.size ≤ gb246)); have GE246 := ak_ ((gs_ hg : w.heap.size ≤ gb246)); replace HB := ak_ (below_step hb_ hb); clear hb hbox hg; obtain ⟨hcz27_0, hcz27_1, hcz27_2, hcz27_3, hcz27_4, hcz27_5, hcz27_6, hcz27_7, hfz27_0, hfz27_1, hfz27_2, hfz27_3, hfz27_4, hfz27_5, hfz27_6, hfz27_7⟩ := bc8_ BK246.out) | ((with_reducible refine gate_callee (f := 28) rfl ?_); refine goesL_ (some 5) rfl rfl Tryd.func28 (by kernel_rfl) rfl #[.agg #[.slice A0_0 l0_0.length c0_0, .int .i64 a0_1, .int .i64 a0_2]] rfl (ma1_ rfl) ?_; (with_reducible refine (spec_SideOk.calls k _ _ l0_0 a0_1 a0_2 false _ ?side1 ?side2 A2.out).mono ?_); (case side1 => exact kc_ HR0_0); (case side2 => exact HC0_0.out); rintro e w28 ⟨rfl, hb⟩; refine ⟨_, rfl, ?_⟩; replace BK246 := ak_ (blk_below (bk_ BK246) hb); replace HB := ak_ (below_step hb_ hb); (try clear hb)))
  go_ret
  exact ⟨ew_, hb_⟩

end Go.Proofs.YtblfoelddakelaaDoor.U
