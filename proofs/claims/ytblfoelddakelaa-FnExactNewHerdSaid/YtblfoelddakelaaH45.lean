-- PRINTED by print.py (a twelfth state) out of the translation. Not trusted: Lean checks it.
import Derived.Test.YtblfoelddakelaaH0
import Derived.Test.YtblfoelddakelaaH42
import Derived.Test.YtblfoelddakelaaH44
namespace Go.Proofs.Ytblfoelddakelaa.H
open Go.RowKit Go.Proofs.YtblfoelddakelaaW.PrintWords Go.Proofs.YtblfoelddakelaaW.PrintLast Go.Proofs.YtblfoelddakelaaW.PrintMore
attribute [local go_sem] max2_int min2_int max_two min_two max_three min_three max_four min_four   -- for this text's walks alone
set_option linter.unusedVariables false
set_option linter.unusedSimpArgs false

/-! ### laws_heldSetup: function 14 -/
def laws_heldSetup.f (k : Nat) (a0_0 : Int) (a0_1 : Int) (a0_2 : Int) (l0_3 : List (S49)) (l0_4 : List (S71)) (a0_5 : Int) (a0_6 : Int) (l0_7 : List (S71)) (a0_8 : Int) (a0_9 : Int) (a0_10 : Int) (a0_11 : Int) (a1 : Int) : Option (Int) := (laws_heldGoalS.f k l0_3 a1).bind fun t418 => (if t418 < 0 then (some (-1)) else ((laws_heldBehave.f k l0_4 a0_5 a0_6 l0_7 a0_8 a0_9 a0_10 a0_11 t418).bind fun t419 => (if t419 < 0 then (some (-1)) else (some t419))))
theorem laws_heldSetup.mono : ∀ a0 a1 a2 a3 a4 a5 a6 a7 a8 a9 a10 a11 a12 k, LeO (laws_heldSetup.f k a0 a1 a2 a3 a4 a5 a6 a7 a8 a9 a10 a11 a12) (laws_heldSetup.f (k + 1) a0 a1 a2 a3 a4 a5 a6 a7 a8 a9 a10 a11 a12) := by
  intro a0 a1 a2 a3 a4 a5 a6 a7 a8 a9 a10 a11 a12 k
  unfold laws_heldSetup.f
  repeat' with_reducible first | exact laws_heldBehave.mono _ _ _ _ _ _ _ _ _ _ | exact laws_heldGoalS.mono _ _ _ | exact LeO.refl _ | exact LeO.none _ | refine LeO.ite ?_ ?_ | refine LeO.bind ?_ (fun _ => ?_)
set_option maxHeartbeats 8000000 in
set_option maxRecDepth 100000 in
theorem laws_heldSetup.calls (k : Nat) (a0_0 : Int) (a0_1 : Int) (a0_2 : Int) (A0_3 : Option Addr) (c0_3 : Nat) (l0_3 : List (S49)) (A0_4 : Option Addr) (c0_4 : Nat) (l0_4 : List (S71)) (a0_5 : Int) (a0_6 : Int) (A0_7 : Option Addr) (c0_7 : Nat) (l0_7 : List (S71)) (a0_8 : Int) (a0_9 : Int) (a0_10 : Int) (a0_11 : Int) (a1 : Int) (r : Int) (w : World) (hr0_3 : Kd.C k49 w A0_3 l0_3.length l0_3) (hc0_3 : l0_3.length ≤ c0_3) (hr0_4 : Kd.C k71 w A0_4 l0_4.length l0_4) (hc0_4 : l0_4.length ≤ c0_4) (hr0_7 : Kd.C k71 w A0_7 l0_7.length l0_7) (hc0_7 : l0_7.length ≤ c0_7) (h : laws_heldSetup.f k a0_0 a0_1 a0_2 l0_3 l0_4 a0_5 a0_6 l0_7 a0_8 a0_9 a0_10 a0_11 a1 = some r) :
  Calls Try.prog 14 #[.agg #[.int .i64 a0_0, .int .i64 a0_1, .int .i64 a0_2, .slice A0_3 l0_3.length c0_3, .slice A0_4 l0_4.length c0_4, .int .i64 a0_5, .int .i64 a0_6, .slice A0_7 l0_7.length c0_7, .int .i64 a0_8, .int .i64 a0_9, .int .i64 a0_10, .int .i64 a0_11], .int .i64 a1] w fun e w' => e = .returned (.int .i64 r) ∧ Below w.heap.size w w' := by
 have hu33 := Try.underlying33
 have hu31 := Try.underlying31
 have HR0_3 := ak_ hr0_3
 have HC0_3 := ak_ hc0_3
 clear hr0_3 hc0_3
 have HR0_4 := ak_ hr0_4
 have HC0_4 := ak_ hc0_4
 clear hr0_4 hc0_4
 have HR0_7 := ak_ hr0_7
 have HC0_7 := ak_ hc0_7
 clear hr0_7 hc0_7
 have HB := ak_ (Below.refl w.heap.size w)
 have H : ((laws_heldGoalS.f k l0_3 a1).bind fun t418 => (if t418 < 0 then (some (-1)) else ((laws_heldBehave.f k l0_4 a0_5 a0_6 l0_7 a0_8 a0_9 a0_10 a0_11 t418).bind fun t419 => (if t419 < 0 then (some (-1)) else (some t419))))) = some r := h
 clear h
 replace H := Option.bind_eq_some_iff.mp H
 obtain ⟨t418, A30, H⟩ := H
 replace H : (if t418 < 0 then (some (-1)) else ((laws_heldBehave.f k l0_4 a0_5 a0_6 l0_7 a0_8 a0_9 a0_10 a0_11 t418).bind fun t419 => (if t419 < 0 then (some (-1)) else (some t419)))) = some r := H
 have A3 := ak_ A30
 clear A30
 by_cases c4 : t418 < 0
 ·rw [if_pos c4] at H
  have c4b0 : decide (t418 < 0) = true := decide_eq_true c4
  clear c4
  obtain rfl := Option.some.inj H
  go_enter Try.func14, Try.ntmps14
  go_wp2_with (first | ((with_reducible refine gate_dst (N := 2) rfl ?_); refine be_ (N := 2) (cs := #[.int .i64 a0_0, .int .i64 a0_1, .int .i64 a0_2, .slice A0_3 l0_3.length c0_3, .slice A0_4 l0_4.length c0_4, .int .i64 a0_5, .int .i64 a0_6, .slice A0_7 l0_7.length c0_7, .int .i64 a0_8, .int .i64 a0_9, .int .i64 a0_10, .int .i64 a0_11]) (t := 33) ?_; intro gb417 hg w5 hbox hb; have BK417 := ak_ hbox; have GW417 := ak_ ((gs_ hg : w.heap.size ≤ gb417)); have GE417 := ak_ ((gs_ hg : w.heap.size ≤ gb417)); replace HB := ak_ (below_step hb_ hb); clear hb hbox hg; obtain ⟨hcz6_0, hcz6_1, hcz6_2, hcz6_3, hcz6_4, hcz6_5, hcz6_6, hcz6_7, hcz6_8, hcz6_9, hcz6_10, hcz6_11, hfz6_0, hfz6_1, hfz6_2, hfz6_3, hfz6_4, hfz6_5, hfz6_6, hfz6_7, hfz6_8, hfz6_9, hfz6_10, hfz6_11⟩ := bc12_ BK417.out) | ((with_reducible refine gate_callee (f := 34) rfl ?_); refine goesL_ (some 8) rfl rfl Try.func34 (by kernel_rfl) rfl #[.slice A0_3 l0_3.length c0_3, .int .i64 a1] rfl (ma2_ rfl rfl) ?_; (with_reducible refine (laws_heldGoalS.calls k _ _ l0_3 a1 t418 _ ?side1 ?side2 A3.out).mono ?_); (case side1 => exact kc_ HR0_3); (case side2 => exact HC0_3.out); rintro e w7 ⟨rfl, hb⟩; refine ⟨_, rfl, ?_⟩; replace BK417 := ak_ (blk_below (bk_ BK417) hb); replace HB := ak_ (below_step hb_ hb); (try clear hb)))
  go_ret
  exact ⟨ew_, hb_⟩
 ·rw [if_neg c4] at H
  have c4b0 : decide (t418 < 0) = false := decide_eq_false c4
  clear c4
  replace H := Option.bind_eq_some_iff.mp H
  obtain ⟨t419, A80, H⟩ := H
  replace H : (if t419 < 0 then (some (-1)) else (some t419)) = some r := H
  have A8 := ak_ A80
  clear A80
  by_cases c9 : t419 < 0
  ·rw [if_pos c9] at H
   have c9b0 : decide (t419 < 0) = true := decide_eq_true c9
   clear c9
   obtain rfl := Option.some.inj H
   go_enter Try.func14, Try.ntmps14
   go_wp2_with (first | ((with_reducible refine gate_dst (N := 2) rfl ?_); refine be_ (N := 2) (cs := #[.int .i64 a0_0, .int .i64 a0_1, .int .i64 a0_2, .slice A0_3 l0_3.length c0_3, .slice A0_4 l0_4.length c0_4, .int .i64 a0_5, .int .i64 a0_6, .slice A0_7 l0_7.length c0_7, .int .i64 a0_8, .int .i64 a0_9, .int .i64 a0_10, .int .i64 a0_11]) (t := 33) ?_; intro gb417 hg w10 hbox hb; have BK417 := ak_ hbox; have GW417 := ak_ ((gs_ hg : w.heap.size ≤ gb417)); have GE417 := ak_ ((gs_ hg : w.heap.size ≤ gb417)); replace HB := ak_ (below_step hb_ hb); clear hb hbox hg; obtain ⟨hcz11_0, hcz11_1, hcz11_2, hcz11_3, hcz11_4, hcz11_5, hcz11_6, hcz11_7, hcz11_8, hcz11_9, hcz11_10, hcz11_11, hfz11_0, hfz11_1, hfz11_2, hfz11_3, hfz11_4, hfz11_5, hfz11_6, hfz11_7, hfz11_8, hfz11_9, hfz11_10, hfz11_11⟩ := bc12_ BK417.out) | ((with_reducible refine gate_callee (f := 34) rfl ?_); refine goesL_ (some 8) rfl rfl Try.func34 (by kernel_rfl) rfl #[.slice A0_3 l0_3.length c0_3, .int .i64 a1] rfl (ma2_ rfl rfl) ?_; (with_reducible refine (laws_heldGoalS.calls k _ _ l0_3 a1 t418 _ ?side1 ?side2 A3.out).mono ?_); (case side1 => exact kc_ HR0_3); (case side2 => exact HC0_3.out); rintro e w12 ⟨rfl, hb⟩; refine ⟨_, rfl, ?_⟩; replace BK417 := ak_ (blk_below (bk_ BK417) hb); replace HB := ak_ (below_step hb_ hb); (try clear hb); obtain ⟨hcz13_0, hcz13_1, hcz13_2, hcz13_3, hcz13_4, hcz13_5, hcz13_6, hcz13_7, hcz13_8, hcz13_9, hcz13_10, hcz13_11, hfz13_0, hfz13_1, hfz13_2, hfz13_3, hfz13_4, hfz13_5, hfz13_6, hfz13_7, hfz13_8, hfz13_9, hfz13_10, hfz13_11⟩ := bc12_ BK417.out) | ((with_reducible refine gate_callee (f := 35) rfl ?_); refine goesL_ (some 14) rfl rfl Try.func35 (by kernel_rfl) rfl #[.agg #[.slice A0_4 l0_4.length c0_4, .int .i64 a0_5, .int .i64 a0_6, .slice A0_7 l0_7.length c0_7, .int .i64 a0_8, .int .i64 a0_9, .int .i64 a0_10, .int .i64 a0_11], .int .i64 t418] rfl (ma2_ rfl rfl) ?_; (with_reducible refine (laws_heldBehave.calls k _ _ l0_4 a0_5 a0_6 _ _ l0_7 a0_8 a0_9 a0_10 a0_11 t418 t419 _ ?side1 ?side2 ?side3 ?side4 A8.out).mono ?_); (case side1 => exact kc_ HR0_4); (case side2 => exact HC0_4.out); (case side3 => exact kc_ HR0_7); (case side4 => exact HC0_7.out); rintro e w14 ⟨rfl, hb⟩; refine ⟨_, rfl, ?_⟩; replace BK417 := ak_ (blk_below (bk_ BK417) hb); replace HB := ak_ (below_step hb_ hb); (try clear hb)))
   go_ret
   exact ⟨ew_, hb_⟩
  ·rw [if_neg c9] at H
   have c9b0 : decide (t419 < 0) = false := decide_eq_false c9
   clear c9
   obtain rfl := Option.some.inj H
   go_enter Try.func14, Try.ntmps14
   go_wp2_with (first | ((with_reducible refine gate_dst (N := 2) rfl ?_); refine be_ (N := 2) (cs := #[.int .i64 a0_0, .int .i64 a0_1, .int .i64 a0_2, .slice A0_3 l0_3.length c0_3, .slice A0_4 l0_4.length c0_4, .int .i64 a0_5, .int .i64 a0_6, .slice A0_7 l0_7.length c0_7, .int .i64 a0_8, .int .i64 a0_9, .int .i64 a0_10, .int .i64 a0_11]) (t := 33) ?_; intro gb417 hg w15 hbox hb; have BK417 := ak_ hbox; have GW417 := ak_ ((gs_ hg : w.heap.size ≤ gb417)); have GE417 := ak_ ((gs_ hg : w.heap.size ≤ gb417)); replace HB := ak_ (below_step hb_ hb); clear hb hbox hg; obtain ⟨hcz16_0, hcz16_1, hcz16_2, hcz16_3, hcz16_4, hcz16_5, hcz16_6, hcz16_7, hcz16_8, hcz16_9, hcz16_10, hcz16_11, hfz16_0, hfz16_1, hfz16_2, hfz16_3, hfz16_4, hfz16_5, hfz16_6, hfz16_7, hfz16_8, hfz16_9, hfz16_10, hfz16_11⟩ := bc12_ BK417.out) | ((with_reducible refine gate_callee (f := 34) rfl ?_); refine goesL_ (some 8) rfl rfl Try.func34 (by kernel_rfl) rfl #[.slice A0_3 l0_3.length c0_3, .int .i64 a1] rfl (ma2_ rfl rfl) ?_; (with_reducible refine (laws_heldGoalS.calls k _ _ l0_3 a1 t418 _ ?side1 ?side2 A3.out).mono ?_); (case side1 => exact kc_ HR0_3); (case side2 => exact HC0_3.out); rintro e w17 ⟨rfl, hb⟩; refine ⟨_, rfl, ?_⟩; replace BK417 := ak_ (blk_below (bk_ BK417) hb); replace HB := ak_ (below_step hb_ hb); (try clear hb); obtain ⟨hcz18_0, hcz18_1, hcz18_2, hcz18_3, hcz18_4, hcz18_5, hcz18_6, hcz18_7, hcz18_8, hcz18_9, hcz18_10, hcz18_11, hfz18_0, hfz18_1, hfz18_2, hfz18_3, hfz18_4, hfz18_5, hfz18_6, hfz18_7, hfz18_8, hfz18_9, hfz18_10, hfz18_11⟩ := bc12_ BK417.out) | ((with_reducible refine gate_callee (f := 35) rfl ?_); refine goesL_ (some 14) rfl rfl Try.func35 (by kernel_rfl) rfl #[.agg #[.slice A0_4 l0_4.length c0_4, .int .i64 a0_5, .int .i64 a0_6, .slice A0_7 l0_7.length c0_7, .int .i64 a0_8, .int .i64 a0_9, .int .i64 a0_10, .int .i64 a0_11], .int .i64 t418] rfl (ma2_ rfl rfl) ?_; (with_reducible refine (laws_heldBehave.calls k _ _ l0_4 a0_5 a0_6 _ _ l0_7 a0_8 a0_9 a0_10 a0_11 t418 t419 _ ?side1 ?side2 ?side3 ?side4 A8.out).mono ?_); (case side1 => exact kc_ HR0_4); (case side2 => exact HC0_4.out); (case side3 => exact kc_ HR0_7); (case side4 => exact HC0_7.out); rintro e w19 ⟨rfl, hb⟩; refine ⟨_, rfl, ?_⟩; replace BK417 := ak_ (blk_below (bk_ BK417) hb); replace HB := ak_ (below_step hb_ hb); (try clear hb)))
   go_ret
   exact ⟨ew_, hb_⟩

/-! ### laws_heldPodS: function 61 -/
def laws_heldPodS.f (l0 : List (S109)) (a1 : Int) : Option (Int) := if l0.length = 0 then some a1 else none
set_option maxHeartbeats 4000000 in
theorem laws_heldPodS.calls (A0 : Option Addr) (c0 : Nat) (l0 : List (S109)) (a1 : Int) (r : Int) (w : World) (hr0 : Kd.C k109 w A0 l0.length l0) (hc0 : l0.length ≤ c0) (h : laws_heldPodS.f l0 a1 = some r) :
    Calls Try.prog 61 #[.slice A0 l0.length c0, .int .i64 a1] w fun e w' => e = .returned (.int .i64 r) ∧ Below w.heap.size w w' := by
  unfold laws_heldPodS.f at h
  by_cases hb : l0.length = 0
  · rw [if_pos hb] at h
    obtain rfl := Option.some.inj h
    rw [hb]
    clear h hr0 hc0 hb
    have HB := Aside0.mk (Below.refl w.heap.size w)
    go_enter Try.func61, Try.ntmps61
    go_wp2
    go_loopg [1, 5] 0 (fun gg v1 v5 w' => v1 = .int .i64 a1 ∧ v5 = .int .i64 0 ∧ Aside0 (Below w.heap.size w w'))
    case atStart => exact ⟨rfl, rfl, ⟨hb_⟩⟩
    case round =>
      clear HB
      obtain ⟨rfl, rfl, HB⟩ := hrel
      go_wp2
      go_ret
      exact ⟨ew_, hb_⟩
  · rw [if_neg hb] at h
    cases h

/-! ### laws_heldSeriesS: function 62 -/
def laws_heldSeriesS.f (l0 : List (S113)) (a1 : Int) : Option (Int) := if l0.length = 0 then some a1 else none
set_option maxHeartbeats 4000000 in
theorem laws_heldSeriesS.calls (A0 : Option Addr) (c0 : Nat) (l0 : List (S113)) (a1 : Int) (r : Int) (w : World) (hr0 : Kd.C k113 w A0 l0.length l0) (hc0 : l0.length ≤ c0) (h : laws_heldSeriesS.f l0 a1 = some r) :
    Calls Try.prog 62 #[.slice A0 l0.length c0, .int .i64 a1] w fun e w' => e = .returned (.int .i64 r) ∧ Below w.heap.size w w' := by
  unfold laws_heldSeriesS.f at h
  by_cases hb : l0.length = 0
  · rw [if_pos hb] at h
    obtain rfl := Option.some.inj h
    rw [hb]
    clear h hr0 hc0 hb
    have HB := Aside0.mk (Below.refl w.heap.size w)
    go_enter Try.func62, Try.ntmps62
    go_wp2
    go_loopg [1, 5] 0 (fun gg v1 v5 w' => v1 = .int .i64 a1 ∧ v5 = .int .i64 0 ∧ Aside0 (Below w.heap.size w w'))
    case atStart => exact ⟨rfl, rfl, ⟨hb_⟩⟩
    case round =>
      clear HB
      obtain ⟨rfl, rfl, HB⟩ := hrel
      go_wp2
      go_ret
      exact ⟨ew_, hb_⟩
  · rw [if_neg hb] at h
    cases h

end Go.Proofs.Ytblfoelddakelaa.H
