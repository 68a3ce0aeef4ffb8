-- PRINTED by print.py (a twelfth state) out of the translation. Not trusted: Lean checks it.
import Derived.Test.YtblfoelddakelaaH0
import Derived.Test.YtblfoelddakelaaH28
import Derived.Test.YtblfoelddakelaaH29
namespace Go.Proofs.Ytblfoelddakelaa.H
open Go.RowKit Go.Proofs.YtblfoelddakelaaW.PrintWords Go.Proofs.YtblfoelddakelaaW.PrintLast Go.Proofs.YtblfoelddakelaaW.PrintMore
attribute [local go_sem] max2_int min2_int max_two min_two max_three min_three max_four min_four   -- for this text's walks alone
set_option linter.unusedVariables false
set_option linter.unusedSimpArgs false

/-! ### impl_GoalOk: function 44 -/
def impl_GoalOk.f (k : Nat) (a0_0 : ByteArray) (a0_1 : Int) (a0_2 : Int) : Option (Bool) := (impl_NameOk.f k a0_0).bind fun t304 => (if t304 = true then ((impl_in.f a0_1 1 1000000).bind fun t305 => (if t305 = true then ((impl_in.f a0_2 0 1000).bind fun t306 => (some t306)) else (some false))) else (some false))
theorem impl_GoalOk.mono : ∀ a0 a1 a2 k, LeO (impl_GoalOk.f k a0 a1 a2) (impl_GoalOk.f (k + 1) a0 a1 a2) := by
  intro a0 a1 a2 k
  unfold impl_GoalOk.f
  repeat' with_reducible first | exact impl_NameOk.mono _ _ | exact LeO.refl _ | exact LeO.none _ | refine LeO.ite ?_ ?_ | refine LeO.bind ?_ (fun _ => ?_)
set_option maxHeartbeats 8000000 in
set_option maxRecDepth 100000 in
theorem impl_GoalOk.calls (k : Nat) (a0_0 : ByteArray) (a0_1 : Int) (a0_2 : Int) (r : Bool) (w : World) (h : impl_GoalOk.f k a0_0 a0_1 a0_2 = some r) :
  Calls Try.prog 44 #[.agg #[.string a0_0, .int .i64 a0_1, .int .i64 a0_2]] w fun e w' => e = .returned (.bool r) ∧ Below w.heap.size w w' := by
 have hu49 := Try.underlying49
 have HB := ak_ (Below.refl w.heap.size w)
 have H : ((impl_NameOk.f k a0_0).bind fun t304 => (if t304 = true then ((impl_in.f a0_1 1 1000000).bind fun t305 => (if t305 = true then ((impl_in.f a0_2 0 1000).bind fun t306 => (some t306)) else (some false))) else (some false))) = some r := h
 clear h
 replace H := Option.bind_eq_some_iff.mp H
 obtain ⟨t304, A20, H⟩ := H
 replace H : (if t304 = true then ((impl_in.f a0_1 1 1000000).bind fun t305 => (if t305 = true then ((impl_in.f a0_2 0 1000).bind fun t306 => (some t306)) else (some false))) else (some false)) = some r := H
 have A2 := ak_ A20
 clear A20
 by_cases c3 : t304 = true
 ·subst c3
  rw [if_pos rfl] at H
  replace H := Option.bind_eq_some_iff.mp H
  obtain ⟨t305, A40, H⟩ := H
  replace H : (if t305 = true then ((impl_in.f a0_2 0 1000).bind fun t306 => (some t306)) else (some false)) = some r := H
  have A4 := ak_ A40
  clear A40
  by_cases c5 : t305 = true
  ·subst c5
   rw [if_pos rfl] at H
   replace H := Option.bind_eq_some_iff.mp H
   obtain ⟨t306, A60, H⟩ := H
   replace H : (some t306) = some r := H
   have A6 := ak_ A60
   clear A60
   obtain rfl := Option.some.inj H
   go_enter Try.func44, Try.ntmps44
   go_wp2_with (first | ((with_reducible refine gate_dst (N := 1) rfl ?_); refine be_ (N := 1) (cs := #[.string a0_0, .int .i64 a0_1, .int .i64 a0_2]) (t := 49) ?_; intro gb303 hg w7 hbox hb; have BK303 := ak_ hbox; have GW303 := ak_ ((gs_ hg : w.heap.size ≤ gb303)); have GE303 := ak_ ((gs_ hg : w.heap.size ≤ gb303)); replace HB := ak_ (below_step hb_ hb); clear hb hbox hg; obtain ⟨hcz8_0, hcz8_1, hcz8_2, hfz8_0, hfz8_1, hfz8_2⟩ := bc3_ BK303.out) | ((with_reducible refine gate_callee (f := 75) rfl ?_); refine goesL_ (some 5) rfl rfl Try.func75 (by kernel_rfl) rfl #[.string a0_0] rfl (ma1_ rfl) ?_; (with_reducible refine (impl_NameOk.calls k a0_0 true _ A2.out).mono ?_); rintro e w' ⟨rfl, ⟨nd, rfl⟩⟩; refine ⟨_, rfl, ?_⟩) | (go_at_call 28; (with_reducible refine (impl_in.calls a0_1 1 1000000 true _ A4.out).mono ?_); rintro e w' ⟨rfl, ⟨nd, rfl⟩⟩) | (go_at_call 28; (with_reducible refine (impl_in.calls a0_2 0 1000 t306 _ A6.out).mono ?_); rintro e w' ⟨rfl, ⟨nd, rfl⟩⟩))
   go_ret
   exact ⟨ew_, hb_⟩
  ·replace c5 := Bool.eq_false_iff.mpr c5
   subst c5
   rw [if_neg (show ¬ (false = true) by decide)] at H
   obtain rfl := Option.some.inj H
   go_enter Try.func44, Try.ntmps44
   go_wp2_with (first | ((with_reducible refine gate_dst (N := 1) rfl ?_); refine be_ (N := 1) (cs := #[.string a0_0, .int .i64 a0_1, .int .i64 a0_2]) (t := 49) ?_; intro gb303 hg w9 hbox hb; have BK303 := ak_ hbox; have GW303 := ak_ ((gs_ hg : w.heap.size ≤ gb303)); have GE303 := ak_ ((gs_ hg : w.heap.size ≤ gb303)); replace HB := ak_ (below_step hb_ hb); clear hb hbox hg; obtain ⟨hcz10_0, hcz10_1, hcz10_2, hfz10_0, hfz10_1, hfz10_2⟩ := bc3_ BK303.out) | ((with_reducible refine gate_callee (f := 75) rfl ?_); refine goesL_ (some 5) rfl rfl Try.func75 (by kernel_rfl) rfl #[.string a0_0] rfl (ma1_ rfl) ?_; (with_reducible refine (impl_NameOk.calls k a0_0 true _ A2.out).mono ?_); rintro e w' ⟨rfl, ⟨nd, rfl⟩⟩; refine ⟨_, rfl, ?_⟩) | (go_at_call 28; (with_reducible refine (impl_in.calls a0_1 1 1000000 false _ A4.out).mono ?_); rintro e w' ⟨rfl, ⟨nd, rfl⟩⟩))
   go_ret
   exact ⟨ew_, hb_⟩
 ·replace c3 := Bool.eq_false_iff.mpr c3
  subst c3
  rw [if_neg (show ¬ (false = true) by decide)] at H
  obtain rfl := Option.some.inj H
  go_enter Try.func44, Try.ntmps44
  go_wp2_with (first | ((with_reducible refine gate_dst (N := 1) rfl ?_); refine be_ (N := 1) (cs := #[.string a0_0, .int .i64 a0_1, .int .i64 a0_2]) (t := 49) ?_; intro gb303 hg w11 hbox hb; have BK303 := ak_ hbox; have GW303 := ak_ ((gs_ hg : w.heap.size ≤ gb303)); have GE303 := ak_ ((gs_ hg : w.heap.size ≤ gb303)); replace HB := ak_ (below_step hb_ hb); clear hb hbox hg; obtain ⟨hcz12_0, hcz12_1, hcz12_2, hfz12_0, hfz12_1, hfz12_2⟩ := bc3_ BK303.out) | ((with_reducible refine gate_callee (f := 75) rfl ?_); refine goesL_ (some 5) rfl rfl Try.func75 (by kernel_rfl) rfl #[.string a0_0] rfl (ma1_ rfl) ?_; (with_reducible refine (impl_NameOk.calls k a0_0 false _ A2.out).mono ?_); rintro e w' ⟨rfl, ⟨nd, rfl⟩⟩; refine ⟨_, rfl, ?_⟩))
  go_ret
  exact ⟨ew_, hb_⟩

/-! ### impl_RulesOk: function 47 -/
def impl_RulesOk.f (a0_0 : Int) (a0_1 : Int) (a0_2 : Int) : Option (Bool) := (impl_in.f a0_0 0 1000).bind fun t308 => (if t308 = true then ((impl_in.f a0_1 0 1000).bind fun t309 => (if t309 = true then ((impl_in.f a0_2 0 1000).bind fun t310 => (some t310)) else (some false))) else (some false))
set_option maxHeartbeats 8000000 in
set_option maxRecDepth 100000 in
theorem impl_RulesOk.calls (a0_0 : Int) (a0_1 : Int) (a0_2 : Int) (r : Bool) (w : World) (h : impl_RulesOk.f a0_0 a0_1 a0_2 = some r) :
  Calls Try.prog 47 #[.agg #[.int .i64 a0_0, .int .i64 a0_1, .int .i64 a0_2]] w fun e w' => e = .returned (.bool r) ∧ Below w.heap.size w w' := by
 have hu25 := Try.underlying25
 have HB := ak_ (Below.refl w.heap.size w)
 have H : ((impl_in.f a0_0 0 1000).bind fun t308 => (if t308 = true then ((impl_in.f a0_1 0 1000).bind fun t309 => (if t309 = true then ((impl_in.f a0_2 0 1000).bind fun t310 => (some t310)) else (some false))) else (some false))) = some r := h
 clear h
 replace H := Option.bind_eq_some_iff.mp H
 obtain ⟨t308, A20, H⟩ := H
 replace H : (if t308 = true then ((impl_in.f a0_1 0 1000).bind fun t309 => (if t309 = true then ((impl_in.f a0_2 0 1000).bind fun t310 => (some t310)) else (some false))) else (some false)) = some r := H
 have A2 := ak_ A20
 clear A20
 by_cases c3 : t308 = true
 ·subst c3
  rw [if_pos rfl] at H
  replace H := Option.bind_eq_some_iff.mp H
  obtain ⟨t309, A40, H⟩ := H
  replace H : (if t309 = true then ((impl_in.f a0_2 0 1000).bind fun t310 => (some t310)) else (some false)) = some r := H
  have A4 := ak_ A40
  clear A40
  by_cases c5 : t309 = true
  ·subst c5
   rw [if_pos rfl] at H
   replace H := Option.bind_eq_some_iff.mp H
   obtain ⟨t310, A60, H⟩ := H
   replace H : (some t310) = some r := H
   have A6 := ak_ A60
   clear A60
   obtain rfl := Option.some.inj H
   go_enter Try.func47, Try.ntmps47
   go_wp2_with (first | ((with_reducible refine gate_dst (N := 1) rfl ?_); refine be_ (N := 1) (cs := #[.int .i64 a0_0, .int .i64 a0_1, .int .i64 a0_2]) (t := 25) ?_; intro gb307 hg w7 hbox hb; have BK307 := ak_ hbox; have GW307 := ak_ ((gs_ hg : w.heap.size ≤ gb307)); have GE307 := ak_ ((gs_ hg : w.heap.size ≤ gb307)); replace HB := ak_ (below_step hb_ hb); clear hb hbox hg; obtain ⟨hcz8_0, hcz8_1, hcz8_2, hfz8_0, hfz8_1, hfz8_2⟩ := bc3_ BK307.out) | ((with_reducible refine gate_callee (f := 28) rfl ?_); refine goesL_ (some 5) rfl rfl Try.func28 (by kernel_rfl) rfl #[.int .i64 a0_0, .int .i64 0, .int .i64 1000] rfl (ma3_ rfl rfl rfl) ?_; (with_reducible refine (impl_in.calls a0_0 0 1000 true _ A2.out).mono ?_); rintro e w' ⟨rfl, ⟨nd, rfl⟩⟩; refine ⟨_, rfl, ?_⟩) | (go_at_call 28; (with_reducible refine (impl_in.calls a0_1 0 1000 true _ A4.out).mono ?_); rintro e w' ⟨rfl, ⟨nd, rfl⟩⟩) | (go_at_call 28; (with_reducible refine (impl_in.calls a0_2 0 1000 t310 _ A6.out).mono ?_); rintro e w' ⟨rfl, ⟨nd, rfl⟩⟩))
   go_ret
   exact ⟨ew_, hb_⟩
  ·replace c5 := Bool.eq_false_iff.mpr c5
   subst c5
   rw [if_neg (show ¬ (false = true) by decide)] at H
   obtain rfl := Option.some.inj H
   go_enter Try.func47, Try.ntmps47
   go_wp2_with (first | ((with_reducible refine gate_dst (N := 1) rfl ?_); refine be_ (N := 1) (cs := #[.int .i64 a0_0, .int .i64 a0_1, .int .i64 a0_2]) (t := 25) ?_; intro gb307 hg w9 hbox hb; have BK307 := ak_ hbox; have GW307 := ak_ ((gs_ hg : w.heap.size ≤ gb307)); have GE307 := ak_ ((gs_ hg : w.heap.size ≤ gb307)); replace HB := ak_ (below_step hb_ hb); clear hb hbox hg; obtain ⟨hcz10_0, hcz10_1, hcz10_2, hfz10_0, hfz10_1, hfz10_2⟩ := bc3_ BK307.out) | ((with_reducible refine gate_callee (f := 28) rfl ?_); refine goesL_ (some 5) rfl rfl Try.func28 (by kernel_rfl) rfl #[.int .i64 a0_0, .int .i64 0, .int .i64 1000] rfl (ma3_ rfl rfl rfl) ?_; (with_reducible refine (impl_in.calls a0_0 0 1000 true _ A2.out).mono ?_); rintro e w' ⟨rfl, ⟨nd, rfl⟩⟩; refine ⟨_, rfl, ?_⟩) | (go_at_call 28; (with_reducible refine (impl_in.calls a0_1 0 1000 false _ A4.out).mono ?_); rintro e w' ⟨rfl, ⟨nd, rfl⟩⟩))
   go_ret
   exact ⟨ew_, hb_⟩
 ·replace c3 := Bool.eq_false_iff.mpr c3
  subst c3
  rw [if_neg (show ¬ (false = true) by decide)] at H
  obtain rfl := Option.some.inj H
  go_enter Try.func47, Try.ntmps47
  go_wp2_with (first | ((with_reducible refine gate_dst (N := 1) rfl ?_); refine be_ (N := 1) (cs := #[.int .i64 a0_0, .int .i64 a0_1, .int .i64 a0_2]) (t := 25) ?_; intro gb307 hg w11 hbox hb; have BK307 := ak_ hbox; have GW307 := ak_ ((gs_ hg : w.heap.size ≤ gb307)); have GE307 := ak_ ((gs_ hg : w.heap.size ≤ gb307)); replace HB := ak_ (below_step hb_ hb); clear hb hbox hg; obtain ⟨hcz12_0, hcz12_1, hcz12_2, hfz12_0, hfz12_1, hfz12_2⟩ := bc3_ BK307.out) | ((with_reducible refine gate_callee (f := 28) rfl ?_); refine goesL_ (some 5) rfl rfl Try.func28 (by kernel_rfl) rfl #[.int .i64 a0_0, .int .i64 0, .int .i64 1000] rfl (ma3_ rfl rfl rfl) ?_; (with_reducible refine (impl_in.calls a0_0 0 1000 false _ A2.out).mono ?_); rintro e w' ⟨rfl, ⟨nd, rfl⟩⟩; refine ⟨_, rfl, ?_⟩))
  go_ret
  exact ⟨ew_, hb_⟩

end Go.Proofs.Ytblfoelddakelaa.H
