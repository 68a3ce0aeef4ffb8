-- PRINTED by print.py (a twelfth state) out of the translation. Not trusted: Lean checks it.
import Derived.Test.YtfjjlipfjddaiaaBo0
import Derived.Test.YtfjjlipfjddaiaaBo21
import Derived.Test.YtfjjlipfjddaiaaBo22
import Derived.Test.YtfjjlipfjddaiaaBo25
namespace Go.Proofs.Ytfjjlipfjddaiaa.Bo
open Go.RowKit Go.Proofs.YtfjjlipfjddaiaaW.PrintWords Go.Proofs.YtfjjlipfjddaiaaW.PrintLast Go.Proofs.YtfjjlipfjddaiaaW.PrintMore
attribute [local go_sem] max2_int min2_int max_two min_two max_three min_three max_four min_four   -- for this text's walks alone
set_option linter.unusedVariables false
set_option linter.unusedSimpArgs false

/-! ### spec_l06Good: function 74 -/
def spec_l06Good.f (k : Nat) (l0_0 : List (S96)) (a0_1 : Int) (a0_2 : Int) (l1 : List (S103)) (a2 : Int) (a3 : Int) : Option (Bool) := (spec_SideOk.f k l0_0 a0_1 a0_2).bind fun t489 => (if t489 = true then ((spec_MovesOk.f k l1).bind fun t490 => (if t490 = true then ((spec_l02Tick.f a2).bind fun t491 => (if t491 = true then ((spec_l05Count.f a3).bind fun t492 => (some t492)) else (some false))) else (some false))) else (some false))
theorem spec_l06Good.mono : ∀ a0 a1 a2 a3 a4 a5 k, LeO (spec_l06Good.f k a0 a1 a2 a3 a4 a5) (spec_l06Good.f (k + 1) a0 a1 a2 a3 a4 a5) := by
  intro a0 a1 a2 a3 a4 a5 k
  unfold spec_l06Good.f
  repeat' with_reducible first | exact spec_MovesOk.mono _ _ | exact spec_SideOk.mono _ _ _ _ | exact LeO.refl _ | exact LeO.none _ | refine LeO.ite ?_ ?_ | refine LeO.bind ?_ (fun _ => ?_)
set_option maxHeartbeats 8000000 in
set_option maxRecDepth 100000 in
theorem spec_l06Good.calls (k : Nat) (A0_0 : Option Addr) (c0_0 : Nat) (l0_0 : List (S96)) (a0_1 : Int) (a0_2 : Int) (A1 : Option Addr) (c1 : Nat) (l1 : List (S103)) (a2 : Int) (a3 : Int) (r : Bool) (w : World) (hr0_0 : Kd.C k96 w A0_0 l0_0.length l0_0) (hc0_0 : l0_0.length ≤ c0_0) (hr1 : Kd.C k103 w A1 l1.length l1) (hc1 : l1.length ≤ c1) (h : spec_l06Good.f k l0_0 a0_1 a0_2 l1 a2 a3 = some r) :
  Calls Try.prog 74 #[.agg #[.slice A0_0 l0_0.length c0_0, .int .i64 a0_1, .int .i64 a0_2], .slice A1 l1.length c1, .int .i64 a2, .int .i64 a3] w fun e w' => e = .returned (.bool r) ∧ Below w.heap.size w w' := by
 have hu33 := Try.underlying33
 have HR0_0 := ak_ hr0_0
 have HC0_0 := ak_ hc0_0
 clear hr0_0 hc0_0
 have HR1 := ak_ hr1
 have HC1 := ak_ hc1
 clear hr1 hc1
 have HB := ak_ (Below.refl w.heap.size w)
 have H : ((spec_SideOk.f k l0_0 a0_1 a0_2).bind fun t489 => (if t489 = true then ((spec_MovesOk.f k l1).bind fun t490 => (if t490 = true then ((spec_l02Tick.f a2).bind fun t491 => (if t491 = true then ((spec_l05Count.f a3).bind fun t492 => (some t492)) else (some false))) else (some false))) else (some false))) = some r := h
 clear h
 replace H := Option.bind_eq_some_iff.mp H
 obtain ⟨t489, A50, H⟩ := H
 replace H : (if t489 = true then ((spec_MovesOk.f k l1).bind fun t490 => (if t490 = true then ((spec_l02Tick.f a2).bind fun t491 => (if t491 = true then ((spec_l05Count.f a3).bind fun t492 => (some t492)) else (some false))) else (some false))) else (some false)) = some r := H
 have A5 := ak_ A50
 clear A50
 by_cases c6 : t489 = true
 ·subst c6
  rw [if_pos rfl] at H
  replace H := Option.bind_eq_some_iff.mp H
  obtain ⟨t490, A70, H⟩ := H
  replace H : (if t490 = true then ((spec_l02Tick.f a2).bind fun t491 => (if t491 = true then ((spec_l05Count.f a3).bind fun t492 => (some t492)) else (some false))) else (some false)) = some r := H
  have A7 := ak_ A70
  clear A70
  by_cases c8 : t490 = true
  ·subst c8
   rw [if_pos rfl] at H
   replace H := Option.bind_eq_some_iff.mp H
   obtain ⟨t491, A90, H⟩ := H
   replace H : (if t491 = true then ((spec_l05Count.f a3).bind fun t492 => (some t492)) else (some false)) = some r := H
   have A9 := ak_ A90
   clear A90
   by_cases c10 : t491 = true
   ·subst c10
    rw [if_pos rfl] at H
    replace H := Option.bind_eq_some_iff.mp H
    obtain ⟨t492, A110, H⟩ := H
    replace H : (some t492) = some r := H
    have A11 := ak_ A110
    clear A110
    obtain rfl := Option.some.inj H
    go_enter Try.func74, Try.ntmps74
    go_wp2_with (first | ((with_reducible refine gate_dst (N := 4) rfl ?_); refine be_ (N := 4) (cs := #[.slice A0_0 l0_0.length c0_0, .int .i64 a0_1, .int .i64 a0_2]) (t := 33) ?_; intro gb488 hg w12 hbox hb; have BK488 := ak_ hbox; have GW488 := ak_ ((gs_ hg : w.heap.size ≤ gb488)); have GE488 := ak_ ((gs_ hg : w.heap.size ≤ gb488)); replace HB := ak_ (below_step hb_ hb); clear hb hbox hg; obtain ⟨hcz13_0, hcz13_1, hcz13_2, hfz13_0, hfz13_1, hfz13_2⟩ := bc3_ BK488.out) | ((with_reducible refine gate_callee (f := 88) rfl ?_); refine goesL_ (some 10) rfl rfl Try.func88 (by kernel_rfl) rfl #[.agg #[.slice A0_0 l0_0.length c0_0, .int .i64 a0_1, .int .i64 a0_2]] rfl (ma1_ rfl) ?_; (with_reducible refine (spec_SideOk.calls k _ _ l0_0 a0_1 a0_2 true _ ?side1 ?side2 A5.out).mono ?_); (case side1 => exact kc_ HR0_0); (case side2 => exact HC0_0.out); rintro e w14 ⟨rfl, hb⟩; refine ⟨_, rfl, ?_⟩; replace BK488 := ak_ (blk_below (bk_ BK488) hb); replace HB := ak_ (below_step hb_ hb); (try clear hb)) | (go_at_call 78; (with_reducible refine (spec_MovesOk.calls k _ _ l1 true _ ?side1 ?side2 A7.out).mono ?_); (case side1 => exact kc_ HR1); (case side2 => exact HC1.out); rintro e w15 ⟨rfl, hb⟩; replace BK488 := ak_ (blk_below (bk_ BK488) hb); replace HB := ak_ (below_step hb_ hb); (try clear hb)) | (go_at_call 79; (with_reducible refine (spec_l02Tick.calls a2 true _ A9.out).mono ?_); rintro e w' ⟨rfl, ⟨nd, rfl⟩⟩) | (go_at_call 89; (with_reducible refine (spec_l05Count.calls a3 t492 _ A11.out).mono ?_); rintro e w' ⟨rfl, ⟨nd, rfl⟩⟩))
    go_ret
    exact ⟨ew_, hb_⟩
   ·replace c10 := Bool.eq_false_iff.mpr c10
    subst c10
    rw [if_neg (show ¬ (false = true) by decide)] at H
    obtain rfl := Option.some.inj H
    go_enter Try.func74, Try.ntmps74
    go_wp2_with (first | ((with_reducible refine gate_dst (N := 4) rfl ?_); refine be_ (N := 4) (cs := #[.slice A0_0 l0_0.length c0_0, .int .i64 a0_1, .int .i64 a0_2]) (t := 33) ?_; intro gb488 hg w16 hbox hb; have BK488 := ak_ hbox; have GW488 := ak_ ((gs_ hg : w.heap.size ≤ gb488)); have GE488 := ak_ ((gs_ hg : w.heap.size ≤ gb488)); replace HB := ak_ (below_step hb_ hb); clear hb hbox hg; obtain ⟨hcz17_0, hcz17_1, hcz17_2, hfz17_0, hfz17_1, hfz17_2⟩ := bc3_ BK488.out) | ((with_reducible refine gate_callee (f := 88) rfl ?_); refine goesL_ (some 10) rfl rfl Try.func88 (by kernel_rfl) rfl #[.agg #[.slice A0_0 l0_0.length c0_0, .int .i64 a0_1, .int .i64 a0_2]] rfl (ma1_ rfl) ?_; (with_reducible refine (spec_SideOk.calls k _ _ l0_0 a0_1 a0_2 true _ ?side1 ?side2 A5.out).mono ?_); (case side1 => exact kc_ HR0_0); (case side2 => exact HC0_0.out); rintro e w18 ⟨rfl, hb⟩; refine ⟨_, rfl, ?_⟩; replace BK488 := ak_ (blk_below (bk_ BK488) hb); replace HB := ak_ (below_step hb_ hb); (try clear hb)) | (go_at_call 78; (with_reducible refine (spec_MovesOk.calls k _ _ l1 true _ ?side1 ?side2 A7.out).mono ?_); (case side1 => exact kc_ HR1); (case side2 => exact HC1.out); rintro e w19 ⟨rfl, hb⟩; replace BK488 := ak_ (blk_below (bk_ BK488) hb); replace HB := ak_ (below_step hb_ hb); (try clear hb)) | (go_at_call 79; (with_reducible refine (spec_l02Tick.calls a2 false _ A9.out).mono ?_); rintro e w' ⟨rfl, ⟨nd, rfl⟩⟩))
    go_ret
    exact ⟨ew_, hb_⟩
  ·replace c8 := Bool.eq_false_iff.mpr c8
   subst c8
   rw [if_neg (show ¬ (false = true) by decide)] at H
   obtain rfl := Option.some.inj H
   go_enter Try.func74, Try.ntmps74
   go_wp2_with (first | ((with_reducible refine gate_dst (N := 4) rfl ?_); refine be_ (N := 4) (cs := #[.slice A0_0 l0_0.length c0_0, .int .i64 a0_1, .int .i64 a0_2]) (t := 33) ?_; intro gb488 hg w20 hbox hb; have BK488 := ak_ hbox; have GW488 := ak_ ((gs_ hg : w.heap.size ≤ gb488)); have GE488 := ak_ ((gs_ hg : w.heap.size ≤ gb488)); replace HB := ak_ (below_step hb_ hb); clear hb hbox hg; obtain ⟨hcz21_0, hcz21_1, hcz21_2, hfz21_0, hfz21_1, hfz21_2⟩ := bc3_ BK488.out) | ((with_reducible refine gate_callee (f := 88) rfl ?_); refine goesL_ (some 10) rfl rfl Try.func88 (by kernel_rfl) rfl #[.agg #[.slice A0_0 l0_0.length c0_0, .int .i64 a0_1, .int .i64 a0_2]] rfl (ma1_ rfl) ?_; (with_reducible refine (spec_SideOk.calls k _ _ l0_0 a0_1 a0_2 true _ ?side1 ?side2 A5.out).mono ?_); (case side1 => exact kc_ HR0_0); (case side2 => exact HC0_0.out); rintro e w22 ⟨rfl, hb⟩; refine ⟨_, rfl, ?_⟩; replace BK488 := ak_ (blk_below (bk_ BK488) hb); replace HB := ak_ (below_step hb_ hb); (try clear hb)) | (go_at_call 78; (with_reducible refine (spec_MovesOk.calls k _ _ l1 false _ ?side1 ?side2 A7.out).mono ?_); (case side1 => exact kc_ HR1); (case side2 => exact HC1.out); rintro e w23 ⟨rfl, hb⟩; replace BK488 := ak_ (blk_below (bk_ BK488) hb); replace HB := ak_ (below_step hb_ hb); (try clear hb)))
   go_ret
   exact ⟨ew_, hb_⟩
 ·replace c6 := Bool.eq_false_iff.mpr c6
  subst c6
  rw [if_neg (show ¬ (false = true) by decide)] at H
  obtain rfl := Option.some.inj H
  go_enter Try.func74, Try.ntmps74
  go_wp2_with (first | ((with_reducible refine gate_dst (N := 4) rfl ?_); refine be_ (N := 4) (cs := #[.slice A0_0 l0_0.length c0_0, .int .i64 a0_1, .int .i64 a0_2]) (t := 33) ?_; intro gb488 hg w24 hbox hb; have BK488 := ak_ hbox; have GW488 := ak_ ((gs_ hg : w.heap.size ≤ gb488)); have GE488 := ak_ ((gs_ hg : w.heap.size ≤ gb488)); replace HB := ak_ (below_step hb_ hb); clear hb hbox hg; obtain ⟨hcz25_0, hcz25_1, hcz25_2, hfz25_0, hfz25_1, hfz25_2⟩ := bc3_ BK488.out) | ((with_reducible refine gate_callee (f := 88) rfl ?_); refine goesL_ (some 10) rfl rfl Try.func88 (by kernel_rfl) rfl #[.agg #[.slice A0_0 l0_0.length c0_0, .int .i64 a0_1, .int .i64 a0_2]] rfl (ma1_ rfl) ?_; (with_reducible refine (spec_SideOk.calls k _ _ l0_0 a0_1 a0_2 false _ ?side1 ?side2 A5.out).mono ?_); (case side1 => exact kc_ HR0_0); (case side2 => exact HC0_0.out); rintro e w26 ⟨rfl, hb⟩; refine ⟨_, rfl, ?_⟩; replace BK488 := ak_ (blk_below (bk_ BK488) hb); replace HB := ak_ (below_step hb_ hb); (try clear hb)))
  go_ret
  exact ⟨ew_, hb_⟩

end Go.Proofs.Ytfjjlipfjddaiaa.Bo
