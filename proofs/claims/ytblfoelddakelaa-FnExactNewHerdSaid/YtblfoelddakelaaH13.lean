-- PRINTED by print.py (a twelfth state) out of the translation. Not trusted: Lean checks it.
import Derived.Test.YtblfoelddakelaaH0
namespace Go.Proofs.Ytblfoelddakelaa.H
open Go.RowKit Go.Proofs.YtblfoelddakelaaW.PrintWords Go.Proofs.YtblfoelddakelaaW.PrintLast Go.Proofs.YtblfoelddakelaaW.PrintMore
attribute [local go_sem] max2_int min2_int max_two min_two max_three min_three max_four min_four   -- for this text's walks alone
set_option linter.unusedVariables false
set_option linter.unusedSimpArgs false

/-! ### laws_szPolicyS: function 90 -/
def laws_szPolicyS.f (l0 : List (S132)) (a1 : Int) : Option (Int) := if (wrap64 (a1 - (l0.length : Int))) < 0 then (some (-1)) else (some (wrap64 (a1 - (l0.length : Int))))
set_option maxHeartbeats 8000000 in
set_option maxRecDepth 100000 in
theorem laws_szPolicyS.calls (A0 : Option Addr) (c0 : Nat) (l0 : List (S132)) (a1 : Int) (r : Int) (w : World) (hr0 : Kd.C k132 w A0 l0.length l0) (hc0 : l0.length ≤ c0) (h : laws_szPolicyS.f l0 a1 = some r) :
  Calls Try.prog 90 #[.slice A0 l0.length c0, .int .i64 a1] w fun e w' => e = .returned (.int .i64 r) ∧ Drawn0 w w' := by
 have HR0 := ak_ hr0
 have HC0 := ak_ hc0
 clear hr0 hc0
 have H : (if (wrap64 (a1 - (l0.length : Int))) < 0 then (some (-1)) else (some (wrap64 (a1 - (l0.length : Int))))) = some r := h
 clear h
 by_cases c3 : (wrap64 (a1 - (l0.length : Int))) < 0
 ·rw [if_pos c3] at H
  have c3b0 : decide ((wrap64 (a1 - (l0.length : Int))) < 0) = true := decide_eq_true c3
  clear c3
  obtain rfl := Option.some.inj H
  go_enter Try.func90, Try.ntmps90
  go_wp2
  go_ret
  exact ⟨by first | rfl | (simp; done) | (simp [*]; done), by repeat (first | exact Drawn0.refl _ | apply Drawn0.step)⟩
 ·rw [if_neg c3] at H
  have c3b0 : decide ((wrap64 (a1 - (l0.length : Int))) < 0) = false := decide_eq_false c3
  clear c3
  obtain rfl := Option.some.inj H
  go_enter Try.func90, Try.ntmps90
  go_wp2
  go_ret
  exact ⟨by first | rfl | (simp; done) | (simp [*]; done), by repeat (first | exact Drawn0.refl _ | apply Drawn0.step)⟩

/-! ### laws_szSide: function 70 -/
def laws_szSide.f (l0_0 : List (S132)) (a0_1 : Int) (a0_2 : Int) (a1 : Int) : Option (Int) := (laws_szPolicyS.f l0_0 a1).bind fun t153 => (if t153 < 0 then (some (-1)) else (some t153))
set_option maxHeartbeats 8000000 in
set_option maxRecDepth 100000 in
theorem laws_szSide.calls (A0_0 : Option Addr) (c0_0 : Nat) (l0_0 : List (S132)) (a0_1 : Int) (a0_2 : Int) (a1 : Int) (r : Int) (w : World) (hr0_0 : Kd.C k132 w A0_0 l0_0.length l0_0) (hc0_0 : l0_0.length ≤ c0_0) (h : laws_szSide.f l0_0 a0_1 a0_2 a1 = some r) :
  Calls Try.prog 70 #[.agg #[.slice A0_0 l0_0.length c0_0, .int .i64 a0_1, .int .i64 a0_2], .int .i64 a1] w fun e w' => e = .returned (.int .i64 r) ∧ Below w.heap.size w w' := by
 have hu42 := Try.underlying42
 have HR0_0 := ak_ hr0_0
 have HC0_0 := ak_ hc0_0
 clear hr0_0 hc0_0
 have HB := ak_ (Below.refl w.heap.size w)
 have H : ((laws_szPolicyS.f l0_0 a1).bind fun t153 => (if t153 < 0 then (some (-1)) else (some t153))) = some r := h
 clear h
 replace H := Option.bind_eq_some_iff.mp H
 obtain ⟨t153, A30, H⟩ := H
 replace H : (if t153 < 0 then (some (-1)) else (some t153)) = some r := H
 have A3 := ak_ A30
 clear A30
 by_cases c4 : t153 < 0
 ·rw [if_pos c4] at H
  have c4b0 : decide (t153 < 0) = true := decide_eq_true c4
  clear c4
  obtain rfl := Option.some.inj H
  go_enter Try.func70, Try.ntmps70
  go_wp2_with (first | ((with_reducible refine gate_dst (N := 2) rfl ?_); refine be_ (N := 2) (cs := #[.slice A0_0 l0_0.length c0_0, .int .i64 a0_1, .int .i64 a0_2]) (t := 42) ?_; intro gb152 hg w5 hbox hb; have BK152 := ak_ hbox; have GW152 := ak_ ((gs_ hg : w.heap.size ≤ gb152)); have GE152 := ak_ ((gs_ hg : w.heap.size ≤ gb152)); replace HB := ak_ (below_step hb_ hb); clear hb hbox hg; obtain ⟨hcz6_0, hcz6_1, hcz6_2, hfz6_0, hfz6_1, hfz6_2⟩ := bc3_ BK152.out) | ((with_reducible refine gate_callee (f := 90) rfl ?_); refine goesL_ (some 8) rfl rfl Try.func90 (by kernel_rfl) rfl #[.slice A0_0 l0_0.length c0_0, .int .i64 a1] rfl (ma2_ rfl rfl) ?_; (with_reducible refine (laws_szPolicyS.calls _ _ l0_0 a1 t153 _ ?side1 ?side2 A3.out).mono ?_); (case side1 => exact kc_ HR0_0); (case side2 => exact HC0_0.out); rintro e w' ⟨rfl, ⟨nd, rfl⟩⟩; refine ⟨_, rfl, ?_⟩))
  go_ret
  exact ⟨ew_, hb_⟩
 ·rw [if_neg c4] at H
  have c4b0 : decide (t153 < 0) = false := decide_eq_false c4
  clear c4
  obtain rfl := Option.some.inj H
  go_enter Try.func70, Try.ntmps70
  go_wp2_with (first | ((with_reducible refine gate_dst (N := 2) rfl ?_); refine be_ (N := 2) (cs := #[.slice A0_0 l0_0.length c0_0, .int .i64 a0_1, .int .i64 a0_2]) (t := 42) ?_; intro gb152 hg w7 hbox hb; have BK152 := ak_ hbox; have GW152 := ak_ ((gs_ hg : w.heap.size ≤ gb152)); have GE152 := ak_ ((gs_ hg : w.heap.size ≤ gb152)); replace HB := ak_ (below_step hb_ hb); clear hb hbox hg; obtain ⟨hcz8_0, hcz8_1, hcz8_2, hfz8_0, hfz8_1, hfz8_2⟩ := bc3_ BK152.out) | ((with_reducible refine gate_callee (f := 90) rfl ?_); refine goesL_ (some 8) rfl rfl Try.func90 (by kernel_rfl) rfl #[.slice A0_0 l0_0.length c0_0, .int .i64 a1] rfl (ma2_ rfl rfl) ?_; (with_reducible refine (laws_szPolicyS.calls _ _ l0_0 a1 t153 _ ?side1 ?side2 A3.out).mono ?_); (case side1 => exact kc_ HR0_0); (case side2 => exact HC0_0.out); rintro e w' ⟨rfl, ⟨nd, rfl⟩⟩; refine ⟨_, rfl, ?_⟩))
  go_ret
  exact ⟨ew_, hb_⟩

/-! ### laws_szBehave: function 37 -/
def laws_szBehave.f (l0_0 : List (S132)) (a0_1 : Int) (a0_2 : Int) (l0_3 : List (S132)) (a0_4 : Int) (a0_5 : Int) (a0_6 : Int) (a0_7 : Int) (a1 : Int) : Option (Int) := (laws_szSide.f l0_0 a0_1 a0_2 a1).bind fun t155 => (if t155 < 0 then (some (-1)) else ((laws_szSide.f l0_3 a0_4 a0_5 t155).bind fun t156 => (if t156 < 0 then (some (-1)) else (some t156))))
set_option maxHeartbeats 8000000 in
set_option maxRecDepth 100000 in
theorem laws_szBehave.calls (A0_0 : Option Addr) (c0_0 : Nat) (l0_0 : List (S132)) (a0_1 : Int) (a0_2 : Int) (A0_3 : Option Addr) (c0_3 : Nat) (l0_3 : List (S132)) (a0_4 : Int) (a0_5 : Int) (a0_6 : Int) (a0_7 : Int) (a1 : Int) (r : Int) (w : World) (hr0_0 : Kd.C k132 w A0_0 l0_0.length l0_0) (hc0_0 : l0_0.length ≤ c0_0) (hr0_3 : Kd.C k132 w A0_3 l0_3.length l0_3) (hc0_3 : l0_3.length ≤ c0_3) (h : laws_szBehave.f l0_0 a0_1 a0_2 l0_3 a0_4 a0_5 a0_6 a0_7 a1 = some r) :
  Calls Try.prog 37 #[.agg #[.slice A0_0 l0_0.length c0_0, .int .i64 a0_1, .int .i64 a0_2, .slice A0_3 l0_3.length c0_3, .int .i64 a0_4, .int .i64 a0_5, .int .i64 a0_6, .int .i64 a0_7], .int .i64 a1] w fun e w' => e = .returned (.int .i64 r) ∧ Below w.heap.size w w' := by
 have hu44 := Try.underlying44
 have hu42 := Try.underlying42
 have HR0_0 := ak_ hr0_0
 have HC0_0 := ak_ hc0_0
 clear hr0_0 hc0_0
 have HR0_3 := ak_ hr0_3
 have HC0_3 := ak_ hc0_3
 clear hr0_3 hc0_3
 have HB := ak_ (Below.refl w.heap.size w)
 have H : ((laws_szSide.f l0_0 a0_1 a0_2 a1).bind fun t155 => (if t155 < 0 then (some (-1)) else ((laws_szSide.f l0_3 a0_4 a0_5 t155).bind fun t156 => (if t156 < 0 then (some (-1)) else (some t156))))) = some r := h
 clear h
 replace H := Option.bind_eq_some_iff.mp H
 obtain ⟨t155, A30, H⟩ := H
 replace H : (if t155 < 0 then (some (-1)) else ((laws_szSide.f l0_3 a0_4 a0_5 t155).bind fun t156 => (if t156 < 0 then (some (-1)) else (some t156)))) = some r := H
 have A3 := ak_ A30
 clear A30
 by_cases c4 : t155 < 0
 ·rw [if_pos c4] at H
  have c4b0 : decide (t155 < 0) = true := decide_eq_true c4
  clear c4
  obtain rfl := Option.some.inj H
  go_enter Try.func37, Try.ntmps37
  go_wp2_with (first | ((with_reducible refine gate_dst (N := 2) rfl ?_); refine be_ (N := 2) (cs := #[.slice A0_0 l0_0.length c0_0, .int .i64 a0_1, .int .i64 a0_2, .slice A0_3 l0_3.length c0_3, .int .i64 a0_4, .int .i64 a0_5, .int .i64 a0_6, .int .i64 a0_7]) (t := 44) ?_; intro gb154 hg w5 hbox hb; have BK154 := ak_ hbox; have GW154 := ak_ ((gs_ hg : w.heap.size ≤ gb154)); have GE154 := ak_ ((gs_ hg : w.heap.size ≤ gb154)); replace HB := ak_ (below_step hb_ hb); clear hb hbox hg; obtain ⟨hcz6_0, hcz6_1, hcz6_2, hcz6_3, hcz6_4, hcz6_5, hcz6_6, hcz6_7, hfz6_0, hfz6_1, hfz6_2, hfz6_3, hfz6_4, hfz6_5, hfz6_6, hfz6_7⟩ := bc8_ BK154.out) | ((with_reducible refine gate_callee (f := 70) rfl ?_); refine goesL_ (some 8) rfl rfl Try.func70 (by kernel_rfl) rfl #[.agg #[.slice A0_0 l0_0.length c0_0, .int .i64 a0_1, .int .i64 a0_2], .int .i64 a1] rfl (ma2_ rfl rfl) ?_; (with_reducible refine (laws_szSide.calls _ _ l0_0 a0_1 a0_2 a1 t155 _ ?side1 ?side2 A3.out).mono ?_); (case side1 => exact kc_ HR0_0); (case side2 => exact HC0_0.out); rintro e w7 ⟨rfl, hb⟩; refine ⟨_, rfl, ?_⟩; replace BK154 := ak_ (blk_below (bk_ BK154) hb); replace HB := ak_ (below_step hb_ hb); (try clear hb)))
  go_ret
  exact ⟨ew_, hb_⟩
 ·rw [if_neg c4] at H
  have c4b0 : decide (t155 < 0) = false := decide_eq_false c4
  clear c4
  replace H := Option.bind_eq_some_iff.mp H
  obtain ⟨t156, A80, H⟩ := H
  replace H : (if t156 < 0 then (some (-1)) else (some t156)) = some r := H
  have A8 := ak_ A80
  clear A80
  by_cases c9 : t156 < 0
  ·rw [if_pos c9] at H
   have c9b0 : decide (t156 < 0) = true := decide_eq_true c9
   clear c9
   obtain rfl := Option.some.inj H
   go_enter Try.func37, Try.ntmps37
   go_wp2_with (first | ((with_reducible refine gate_dst (N := 2) rfl ?_); refine be_ (N := 2) (cs := #[.slice A0_0 l0_0.length c0_0, .int .i64 a0_1, .int .i64 a0_2, .slice A0_3 l0_3.length c0_3, .int .i64 a0_4, .int .i64 a0_5, .int .i64 a0_6, .int .i64 a0_7]) (t := 44) ?_; intro gb154 hg w10 hbox hb; have BK154 := ak_ hbox; have GW154 := ak_ ((gs_ hg : w.heap.size ≤ gb154)); have GE154 := ak_ ((gs_ hg : w.heap.size ≤ gb154)); replace HB := ak_ (below_step hb_ hb); clear hb hbox hg; obtain ⟨hcz11_0, hcz11_1, hcz11_2, hcz11_3, hcz11_4, hcz11_5, hcz11_6, hcz11_7, hfz11_0, hfz11_1, hfz11_2, hfz11_3, hfz11_4, hfz11_5, hfz11_6, hfz11_7⟩ := bc8_ BK154.out) | ((with_reducible refine gate_callee (f := 70) rfl ?_); refine goesL_ (some 8) rfl rfl Try.func70 (by kernel_rfl) rfl #[.agg #[.slice A0_0 l0_0.length c0_0, .int .i64 a0_1, .int .i64 a0_2], .int .i64 a1] rfl (ma2_ rfl rfl) ?_; (with_reducible refine (laws_szSide.calls _ _ l0_0 a0_1 a0_2 a1 t155 _ ?side1 ?side2 A3.out).mono ?_); (case side1 => exact kc_ HR0_0); (case side2 => exact HC0_0.out); rintro e w12 ⟨rfl, hb⟩; refine ⟨_, rfl, ?_⟩; replace BK154 := ak_ (blk_below (bk_ BK154) hb); replace HB := ak_ (below_step hb_ hb); (try clear hb); obtain ⟨hcz13_0, hcz13_1, hcz13_2, hcz13_3, hcz13_4, hcz13_5, hcz13_6, hcz13_7, hfz13_0, hfz13_1, hfz13_2, hfz13_3, hfz13_4, hfz13_5, hfz13_6, hfz13_7⟩ := bc8_ BK154.out) | ((with_reducible refine gate_callee (f := 70) rfl ?_); refine goesL_ (some 14) rfl rfl Try.func70 (by kernel_rfl) rfl #[.agg #[.slice A0_3 l0_3.length c0_3, .int .i64 a0_4, .int .i64 a0_5], .int .i64 t155] rfl (ma2_ rfl rfl) ?_; (with_reducible refine (laws_szSide.calls _ _ l0_3 a0_4 a0_5 t155 t156 _ ?side1 ?side2 A8.out).mono ?_); (case side1 => exact kc_ HR0_3); (case side2 => exact HC0_3.out); rintro e w14 ⟨rfl, hb⟩; refine ⟨_, rfl, ?_⟩; replace BK154 := ak_ (blk_below (bk_ BK154) hb); replace HB := ak_ (below_step hb_ hb); (try clear hb)))
   go_ret
   exact ⟨ew_, hb_⟩
  ·rw [if_neg c9] at H
   have c9b0 : decide (t156 < 0) = false := decide_eq_false c9
   clear c9
   obtain rfl := Option.some.inj H
   go_enter Try.func37, Try.ntmps37
   go_wp2_with (first | ((with_reducible refine gate_dst (N := 2) rfl ?_); refine be_ (N := 2) (cs := #[.slice A0_0 l0_0.length c0_0, .int .i64 a0_1, .int .i64 a0_2, .slice A0_3 l0_3.length c0_3, .int .i64 a0_4, .int .i64 a0_5, .int .i64 a0_6, .int .i64 a0_7]) (t := 44) ?_; intro gb154 hg w15 hbox hb; have BK154 := ak_ hbox; have GW154 := ak_ ((gs_ hg : w.heap.size ≤ gb154)); have GE154 := ak_ ((gs_ hg : w.heap.size ≤ gb154)); replace HB := ak_ (below_step hb_ hb); clear hb hbox hg; obtain ⟨hcz16_0, hcz16_1, hcz16_2, hcz16_3, hcz16_4, hcz16_5, hcz16_6, hcz16_7, hfz16_0, hfz16_1, hfz16_2, hfz16_3, hfz16_4, hfz16_5, hfz16_6, hfz16_7⟩ := bc8_ BK154.out) | ((with_reducible refine gate_callee (f := 70) rfl ?_); refine goesL_ (some 8) rfl rfl Try.func70 (by kernel_rfl) rfl #[.agg #[.slice A0_0 l0_0.length c0_0, .int .i64 a0_1, .int .i64 a0_2], .int .i64 a1] rfl (ma2_ rfl rfl) ?_; (with_reducible refine (laws_szSide.calls _ _ l0_0 a0_1 a0_2 a1 t155 _ ?side1 ?side2 A3.out).mono ?_); (case side1 => exact kc_ HR0_0); (case side2 => exact HC0_0.out); rintro e w17 ⟨rfl, hb⟩; refine ⟨_, rfl, ?_⟩; replace BK154 := ak_ (blk_below (bk_ BK154) hb); replace HB := ak_ (below_step hb_ hb); (try clear hb); obtain ⟨hcz18_0, hcz18_1, hcz18_2, hcz18_3, hcz18_4, hcz18_5, hcz18_6, hcz18_7, hfz18_0, hfz18_1, hfz18_2, hfz18_3, hfz18_4, hfz18_5, hfz18_6, hfz18_7⟩ := bc8_ BK154.out) | ((with_reducible refine gate_callee (f := 70) rfl ?_); refine goesL_ (some 14) rfl rfl Try.func70 (by kernel_rfl) rfl #[.agg #[.slice A0_3 l0_3.length c0_3, .int .i64 a0_4, .int .i64 a0_5], .int .i64 t155] rfl (ma2_ rfl rfl) ?_; (with_reducible refine (laws_szSide.calls _ _ l0_3 a0_4 a0_5 t155 t156 _ ?side1 ?side2 A8.out).mono ?_); (case side1 => exact kc_ HR0_3); (case side2 => exact HC0_3.out); rintro e w19 ⟨rfl, hb⟩; refine ⟨_, rfl, ?_⟩; replace BK154 := ak_ (blk_below (bk_ BK154) hb); replace HB := ak_ (below_step hb_ hb); (try clear hb)))
   go_ret
   exact ⟨ew_, hb_⟩

end Go.Proofs.Ytblfoelddakelaa.H
