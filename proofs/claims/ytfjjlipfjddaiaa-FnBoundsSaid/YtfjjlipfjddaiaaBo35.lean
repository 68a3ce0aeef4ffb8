-- PRINTED by print.py (a twelfth state) out of the translation. Not trusted: Lean checks it.
import Derived.Test.YtfjjlipfjddaiaaBo0
import Derived.Test.YtfjjlipfjddaiaaBo1
import Derived.Test.YtfjjlipfjddaiaaBo8
import Derived.Test.YtfjjlipfjddaiaaBo16
import Derived.Test.YtfjjlipfjddaiaaBo18
import Derived.Test.YtfjjlipfjddaiaaBo20
import Derived.Test.YtfjjlipfjddaiaaBo29
import Derived.Test.YtfjjlipfjddaiaaBo31
import Derived.Test.YtfjjlipfjddaiaaBo34
namespace Go.Proofs.Ytfjjlipfjddaiaa.Bo
open Go.RowKit Go.Proofs.YtfjjlipfjddaiaaW.PrintWords Go.Proofs.YtfjjlipfjddaiaaW.PrintLast Go.Proofs.YtfjjlipfjddaiaaW.PrintMore
attribute [local go_sem] max2_int min2_int max_two min_two max_three min_three max_four min_four   -- for this text's walks alone
set_option linter.unusedVariables false
set_option linter.unusedSimpArgs false

/-! ### laws_FnBounds: function 4 -/
def laws_FnBounds.j0 : Nat → Int → Int → Int → Int → Bool → List (S96) → Int → Int → List (S96) → Int → Int → Int → Int → Option (Bool)
  | 0, _, _, _, _, _, _, _, _, _, _, _, _, _ => none
  | k + 1, x7, x9, x10, x11, x68, x553000, x553001, x553002, x553003, x553004, x553005, x553006, x553007 => if x68 = true then (some false) else (if x9 < 0 then (some (x9 == (-1))) else (if x10 < x7 then (some false) else (if x11 > x7 then (some false) else (if x553001 = 2 then (if x10 = x7 then (if x553004 = 2 then (if x11 = x7 then (if x9 < x553006 then (some false) else (if x9 > x553007 then (some false) else (if x9 ≤ x10 then (if x9 ≥ x11 then (some true) else (some (x9 == x553007))) else (if x9 = x553006 then (if x9 ≥ x11 then (some true) else (some (x9 == x553007))) else (some false))))) else (some false)) else (if x9 < x553006 then (some false) else (if x9 > x553007 then (some false) else (if x9 ≤ x10 then (if x9 ≥ x11 then (some true) else (some (x9 == x553007))) else (if x9 = x553006 then (if x9 ≥ x11 then (some true) else (some (x9 == x553007))) else (some false)))))) else (some false)) else (if x553004 = 2 then (if x11 = x7 then (if x9 < x553006 then (some false) else (if x9 > x553007 then (some false) else (if x9 ≤ x10 then (if x9 ≥ x11 then (some true) else (some (x9 == x553007))) else (if x9 = x553006 then (if x9 ≥ x11 then (some true) else (some (x9 == x553007))) else (some false))))) else (some false)) else (if x9 < x553006 then (some false) else (if x9 > x553007 then (some false) else (if x9 ≤ x10 then (if x9 ≥ x11 then (some true) else (some (x9 == x553007))) else (if x9 = x553006 then (if x9 ≥ x11 then (some true) else (some (x9 == x553007))) else (some false))))))))))
def laws_FnBounds.f (k : Nat) (l0 : List Int) : Option (Bool) := (laws_big.f l0).bind fun t530 => (if t530 = true then (some true) else ((spec_DrawDecide.f k l0).bind fun bt531 => ((impl_Decide.f k bt531.1 bt531.2.1 bt531.2.2.1 bt531.2.2.2.1 bt531.2.2.2.2.1 bt531.2.2.2.2.2.1 bt531.2.2.2.2.2.2.1 bt531.2.2.2.2.2.2.2.1 bt531.2.2.2.2.2.2.2.2.1 bt531.2.2.2.2.2.2.2.2.2.1 bt531.2.2.2.2.2.2.2.2.2.2.1 bt531.2.2.2.2.2.2.2.2.2.2.2.1 bt531.2.2.2.2.2.2.2.2.2.2.2.2).bind fun t553 => ((spec_Decide.f k bt531.1 bt531.2.1 bt531.2.2.1 bt531.2.2.2.1 bt531.2.2.2.2.1 bt531.2.2.2.2.2.1 bt531.2.2.2.2.2.2.1 bt531.2.2.2.2.2.2.2.1 bt531.2.2.2.2.2.2.2.2.1 bt531.2.2.2.2.2.2.2.2.2.1 bt531.2.2.2.2.2.2.2.2.2.2.1 bt531.2.2.2.2.2.2.2.2.2.2.2.1 bt531.2.2.2.2.2.2.2.2.2.2.2.2).bind fun t554 => (if t553 = t554 then ((impl_UpBound.f k bt531.1 bt531.2.1 bt531.2.2.1 bt531.2.2.2.2.2.2.2.2.2.1 bt531.2.2.2.2.2.2.2.2.2.2.1 bt531.2.2.2.2.2.2.2.2.2.2.2.1).bind fun t555 => ((impl_DownBound.f k bt531.2.2.2.1 bt531.2.2.2.2.1 bt531.2.2.2.2.2.1 bt531.2.2.2.2.2.2.2.2.2.1 bt531.2.2.2.2.2.2.2.2.2.2.1 bt531.2.2.2.2.2.2.2.2.2.2.2.1).bind fun t556 => ((spec_UpBound.f k bt531.1 bt531.2.1 bt531.2.2.1 bt531.2.2.2.2.2.2.2.2.2.1 bt531.2.2.2.2.2.2.2.2.2.2.1 bt531.2.2.2.2.2.2.2.2.2.2.2.1).bind fun t557 => (if t555 = t557 then ((spec_DownBound.f k bt531.2.2.2.1 bt531.2.2.2.2.1 bt531.2.2.2.2.2.1 bt531.2.2.2.2.2.2.2.2.2.1 bt531.2.2.2.2.2.2.2.2.2.2.1 bt531.2.2.2.2.2.2.2.2.2.2.2.1).bind fun t558 => (laws_FnBounds.j0 k bt531.2.2.2.2.2.2.2.2.2.2.2.1 t553 t555 t556 (t556 != t558) bt531.1 bt531.2.1 bt531.2.2.1 bt531.2.2.2.1 bt531.2.2.2.2.1 bt531.2.2.2.2.2.1 bt531.2.2.2.2.2.2.1 bt531.2.2.2.2.2.2.2.1)) else (laws_FnBounds.j0 k bt531.2.2.2.2.2.2.2.2.2.2.2.1 t553 t555 t556 true bt531.1 bt531.2.1 bt531.2.2.1 bt531.2.2.2.1 bt531.2.2.2.2.1 bt531.2.2.2.2.2.1 bt531.2.2.2.2.2.2.1 bt531.2.2.2.2.2.2.2.1))))) else (some false))))))
theorem laws_FnBounds.mono_l : ∀ k, (∀ y0 y1 y2 y3 y4 y5 y6 y7 y8 y9 y10 y11 y12, LeO (laws_FnBounds.j0 k y0 y1 y2 y3 y4 y5 y6 y7 y8 y9 y10 y11 y12) (laws_FnBounds.j0 (k + 1) y0 y1 y2 y3 y4 y5 y6 y7 y8 y9 y10 y11 y12))
  | 0 => fun _ _ _ _ _ _ _ _ _ _ _ _ _ r h => by simp [laws_FnBounds.j0] at h
  | k + 1 => by
    have ih0 := laws_FnBounds.mono_l k
    · intro y0 y1 y2 y3 y4 y5 y6 y7 y8 y9 y10 y11 y12
      unfold laws_FnBounds.j0
      repeat' with_reducible first | exact ih0 _ _ _ _ _ _ _ _ _ _ _ _ _ | exact impl_Decide.mono _ _ _ _ _ _ _ _ _ _ _ _ _ _ | exact impl_DownBound.mono _ _ _ _ _ _ _ | exact impl_UpBound.mono _ _ _ _ _ _ _ | exact spec_Decide.mono _ _ _ _ _ _ _ _ _ _ _ _ _ _ | exact spec_DownBound.mono _ _ _ _ _ _ _ | exact spec_DrawDecide.mono _ _ | exact spec_UpBound.mono _ _ _ _ _ _ _ | exact LeO.refl _ | exact LeO.none _ | refine LeO.ite ?_ ?_ | refine LeO.bind ?_ (fun _ => ?_)
theorem laws_FnBounds.mono : ∀ a0 k, LeO (laws_FnBounds.f k a0) (laws_FnBounds.f (k + 1) a0) := by
  intro a0 k
  have ih0 := laws_FnBounds.mono_l k
  unfold laws_FnBounds.f
  repeat' with_reducible first | exact ih0 _ _ _ _ _ _ _ _ _ _ _ _ _ | exact impl_Decide.mono _ _ _ _ _ _ _ _ _ _ _ _ _ _ | exact impl_DownBound.mono _ _ _ _ _ _ _ | exact impl_UpBound.mono _ _ _ _ _ _ _ | exact spec_Decide.mono _ _ _ _ _ _ _ _ _ _ _ _ _ _ | exact spec_DownBound.mono _ _ _ _ _ _ _ | exact spec_DrawDecide.mono _ _ | exact spec_UpBound.mono _ _ _ _ _ _ _ | exact LeO.refl _ | exact LeO.none _ | refine LeO.ite ?_ ?_ | refine LeO.bind ?_ (fun _ => ?_)
set_option maxHeartbeats 8000000 in
set_option maxRecDepth 100000 in
theorem laws_FnBounds.calls (k : Nat) (A0 : Option Addr) (c0 : Nat) (l0 : List Int) (r : Bool) (hrT : Aside0 (r = true)) (w : World) (hr0 : Kd.C (Kd.int .u8) w A0 l0.length l0) (hc0 : l0.length ≤ c0) (h : laws_FnBounds.f k l0 = some r) :
  Calls Try.prog 4 #[.slice A0 l0.length c0] w fun e w' => e = .returned (.bool r) ∧ Below w.heap.size w w' := by
 have hu35 := Try.underlying35
 have hu33 := Try.underlying33
 have HR0 := ak_ hr0
 have HC0 := ak_ hc0
 clear hr0 hc0
 have HB := ak_ (Below.refl w.heap.size w)
 have H : ((laws_big.f l0).bind fun t530 => (if t530 = true then (some true) else ((spec_DrawDecide.f k l0).bind fun bt531 => ((impl_Decide.f k bt531.1 bt531.2.1 bt531.2.2.1 bt531.2.2.2.1 bt531.2.2.2.2.1 bt531.2.2.2.2.2.1 bt531.2.2.2.2.2.2.1 bt531.2.2.2.2.2.2.2.1 bt531.2.2.2.2.2.2.2.2.1 bt531.2.2.2.2.2.2.2.2.2.1 bt531.2.2.2.2.2.2.2.2.2.2.1 bt531.2.2.2.2.2.2.2.2.2.2.2.1 bt531.2.2.2.2.2.2.2.2.2.2.2.2).bind fun t553 => ((spec_Decide.f k bt531.1 bt531.2.1 bt531.2.2.1 bt531.2.2.2.1 bt531.2.2.2.2.1 bt531.2.2.2.2.2.1 bt531.2.2.2.2.2.2.1 bt531.2.2.2.2.2.2.2.1 bt531.2.2.2.2.2.2.2.2.1 bt531.2.2.2.2.2.2.2.2.2.1 bt531.2.2.2.2.2.2.2.2.2.2.1 bt531.2.2.2.2.2.2.2.2.2.2.2.1 bt531.2.2.2.2.2.2.2.2.2.2.2.2).bind fun t554 => (if t553 = t554 then ((impl_UpBound.f k bt531.1 bt531.2.1 bt531.2.2.1 bt531.2.2.2.2.2.2.2.2.2.1 bt531.2.2.2.2.2.2.2.2.2.2.1 bt531.2.2.2.2.2.2.2.2.2.2.2.1).bind fun t555 => ((impl_DownBound.f k bt531.2.2.2.1 bt531.2.2.2.2.1 bt531.2.2.2.2.2.1 bt531.2.2.2.2.2.2.2.2.2.1 bt531.2.2.2.2.2.2.2.2.2.2.1 bt531.2.2.2.2.2.2.2.2.2.2.2.1).bind fun t556 => ((spec_UpBound.f k bt531.1 bt531.2.1 bt531.2.2.1 bt531.2.2.2.2.2.2.2.2.2.1 bt531.2.2.2.2.2.2.2.2.2.2.1 bt531.2.2.2.2.2.2.2.2.2.2.2.1).bind fun t557 => (if t555 = t557 then ((spec_DownBound.f k bt531.2.2.2.1 bt531.2.2.2.2.1 bt531.2.2.2.2.2.1 bt531.2.2.2.2.2.2.2.2.2.1 bt531.2.2.2.2.2.2.2.2.2.2.1 bt531.2.2.2.2.2.2.2.2.2.2.2.1).bind fun t558 => (laws_FnBounds.j0 k bt531.2.2.2.2.2.2.2.2.2.2.2.1 t553 t555 t556 (t556 != t558) bt531.1 bt531.2.1 bt531.2.2.1 bt531.2.2.2.1 bt531.2.2.2.2.1 bt531.2.2.2.2.2.1 bt531.2.2.2.2.2.2.1 bt531.2.2.2.2.2.2.2.1)) else (laws_FnBounds.j0 k bt531.2.2.2.2.2.2.2.2.2.2.2.1 t553 t555 t556 true bt531.1 bt531.2.1 bt531.2.2.1 bt531.2.2.2.1 bt531.2.2.2.2.1 bt531.2.2.2.2.2.1 bt531.2.2.2.2.2.2.1 bt531.2.2.2.2.2.2.2.1))))) else (some false))))))) = some r := h
 clear h
 replace H := Option.bind_eq_some_iff.mp H
 obtain ⟨t530, A20, H⟩ := H
 replace H : (if t530 = true then (some true) else ((spec_DrawDecide.f k l0).bind fun bt531 => ((impl_Decide.f k bt531.1 bt531.2.1 bt531.2.2.1 bt531.2.2.2.1 bt531.2.2.2.2.1 bt531.2.2.2.2.2.1 bt531.2.2.2.2.2.2.1 bt531.2.2.2.2.2.2.2.1 bt531.2.2.2.2.2.2.2.2.1 bt531.2.2.2.2.2.2.2.2.2.1 bt531.2.2.2.2.2.2.2.2.2.2.1 bt531.2.2.2.2.2.2.2.2.2.2.2.1 bt531.2.2.2.2.2.2.2.2.2.2.2.2).bind fun t553 => ((spec_Decide.f k bt531.1 bt531.2.1 bt531.2.2.1 bt531.2.2.2.1 bt531.2.2.2.2.1 bt531.2.2.2.2.2.1 bt531.2.2.2.2.2.2.1 bt531.2.2.2.2.2.2.2.1 bt531.2.2.2.2.2.2.2.2.1 bt531.2.2.2.2.2.2.2.2.2.1 bt531.2.2.2.2.2.2.2.2.2.2.1 bt531.2.2.2.2.2.2.2.2.2.2.2.1 bt531.2.2.2.2.2.2.2.2.2.2.2.2).bind fun t554 => (if t553 = t554 then ((impl_UpBound.f k bt531.1 bt531.2.1 bt531.2.2.1 bt531.2.2.2.2.2.2.2.2.2.1 bt531.2.2.2.2.2.2.2.2.2.2.1 bt531.2.2.2.2.2.2.2.2.2.2.2.1).bind fun t555 => ((impl_DownBound.f k bt531.2.2.2.1 bt531.2.2.2.2.1 bt531.2.2.2.2.2.1 bt531.2.2.2.2.2.2.2.2.2.1 bt531.2.2.2.2.2.2.2.2.2.2.1 bt531.2.2.2.2.2.2.2.2.2.2.2.1).bind fun t556 => ((spec_UpBound.f k bt531.1 bt531.2.1 bt531.2.2.1 bt531.2.2.2.2.2.2.2.2.2.1 bt531.2.2.2.2.2.2.2.2.2.2.1 bt531.2.2.2.2.2.2.2.2.2.2.2.1).bind fun t557 => (if t555 = t557 then ((spec_DownBound.f k bt531.2.2.2.1 bt531.2.2.2.2.1 bt531.2.2.2.2.2.1 bt531.2.2.2.2.2.2.2.2.2.1 bt531.2.2.2.2.2.2.2.2.2.2.1 bt531.2.2.2.2.2.2.2.2.2.2.2.1).bind fun t558 => (laws_FnBounds.j0 k bt531.2.2.2.2.2.2.2.2.2.2.2.1 t553 t555 t556 (t556 != t558) bt531.1 bt531.2.1 bt531.2.2.1 bt531.2.2.2.1 bt531.2.2.2.2.1 bt531.2.2.2.2.2.1 bt531.2.2.2.2.2.2.1 bt531.2.2.2.2.2.2.2.1)) else (laws_FnBounds.j0 k bt531.2.2.2.2.2.2.2.2.2.2.2.1 t553 t555 t556 true bt531.1 bt531.2.1 bt531.2.2.1 bt531.2.2.2.1 bt531.2.2.2.2.1 bt531.2.2.2.2.2.1 bt531.2.2.2.2.2.2.1 bt531.2.2.2.2.2.2.2.1))))) else (some false)))))) = some r := H
 have A2 := ak_ A20
 clear A20
 by_cases c3 : t530 = true
 ·subst c3
  rw [if_pos rfl] at H
  obtain rfl := Option.some.inj H
  go_enter Try.func4, Try.ntmps4
  go_wp2_with (first | ((with_reducible refine gate_callee (f := 20) rfl ?_); refine goesL_ (some 13) rfl rfl Try.func20 (by kernel_rfl) rfl #[.slice A0 l0.length c0] rfl (ma1_ rfl) ?_; (with_reducible refine (laws_big.calls _ _ l0 true _ ?side1 ?side2 A2.out).mono ?_); (case side1 => repeat (first | exact HR0.out | with_reducible first | apply ca_ | apply cn_ | apply cd_)); (case side2 => exact HC0.out); rintro e w' ⟨rfl, ⟨nd, rfl⟩⟩; refine ⟨_, rfl, ?_⟩))
  go_ret
  exact ⟨ew_, hb_⟩
 ·replace c3 := Bool.eq_false_iff.mpr c3
  subst c3
  rw [if_neg (show ¬ (false = true) by decide)] at H
  replace H := Option.bind_eq_some_iff.mp H
  obtain ⟨⟨t531, t534, t535, t536, t539, t540, t541, t542, t543, t546, t549, t550, t551⟩, A40, H⟩ := H
  replace H : ((impl_Decide.f k t531 t534 t535 t536 t539 t540 t541 t542 t543 t546 t549 t550 t551).bind fun t553 => ((spec_Decide.f k t531 t534 t535 t536 t539 t540 t541 t542 t543 t546 t549 t550 t551).bind fun t554 => (if t553 = t554 then ((impl_UpBound.f k t531 t534 t535 t546 t549 t550).bind fun t555 => ((impl_DownBound.f k t536 t539 t540 t546 t549 t550).bind fun t556 => ((spec_UpBound.f k t531 t534 t535 t546 t549 t550).bind fun t557 => (if t555 = t557 then ((spec_DownBound.f k t536 t539 t540 t546 t549 t550).bind fun t558 => (laws_FnBounds.j0 k t550 t553 t555 t556 (t556 != t558) t531 t534 t535 t536 t539 t540 t541 t542)) else (laws_FnBounds.j0 k t550 t553 t555 t556 true t531 t534 t535 t536 t539 t540 t541 t542))))) else (some false)))) = some r := H
  have A4 := ak_ A40
  clear A40
  replace H := Option.bind_eq_some_iff.mp H
  obtain ⟨t553, A50, H⟩ := H
  replace H : ((spec_Decide.f k t531 t534 t535 t536 t539 t540 t541 t542 t543 t546 t549 t550 t551).bind fun t554 => (if t553 = t554 then ((impl_UpBound.f k t531 t534 t535 t546 t549 t550).bind fun t555 => ((impl_DownBound.f k t536 t539 t540 t546 t549 t550).bind fun t556 => ((spec_UpBound.f k t531 t534 t535 t546 t549 t550).bind fun t557 => (if t555 = t557 then ((spec_DownBound.f k t536 t539 t540 t546 t549 t550).bind fun t558 => (laws_FnBounds.j0 k t550 t553 t555 t556 (t556 != t558) t531 t534 t535 t536 t539 t540 t541 t542)) else (laws_FnBounds.j0 k t550 t553 t555 t556 true t531 t534 t535 t536 t539 t540 t541 t542))))) else (some false))) = some r := H
  have A5 := ak_ A50
  clear A50
  replace H := Option.bind_eq_some_iff.mp H
  obtain ⟨t554, A60, H⟩ := H
  replace H : (if t553 = t554 then ((impl_UpBound.f k t531 t534 t535 t546 t549 t550).bind fun t555 => ((impl_DownBound.f k t536 t539 t540 t546 t549 t550).bind fun t556 => ((spec_UpBound.f k t531 t534 t535 t546 t549 t550).bind fun t557 => (if t555 = t557 then ((spec_DownBound.f k t536 t539 t540 t546 t549 t550).bind fun t558 => (laws_FnBounds.j0 k t550 t553 t555 t556 (t556 != t558) t531 t534 t535 t536 t539 t540 t541 t542)) else (laws_FnBounds.j0 k t550 t553 t555 t556 true t531 t534 t535 t536 t539 t540 t541 t542))))) else (some false)) = some r := H
  have A6 := ak_ A60
  clear A60
  by_cases c7 : t553 = t554
  ·rw [if_pos c7] at H
   have c7b0 : (t553 == t554) = true := beq_iff_eq.mpr c7
   have c7b1 : (t553 != t554) = false := bne_eq_false_iff_eq.mpr c7
   clear c7
   replace H := Option.bind_eq_some_iff.mp H
   obtain ⟨t555, A80, H⟩ := H
   replace H : ((impl_DownBound.f k t536 t539 t540 t546 t549 t550).bind fun t556 => ((spec_UpBound.f k t531 t534 t535 t546 t549 t550).bind fun t557 => (if t555 = t557 then ((spec_DownBound.f k t536 t539 t540 t546 t549 t550).bind fun t558 => (laws_FnBounds.j0 k t550 t553 t555 t556 (t556 != t558) t531 t534 t535 t536 t539 t540 t541 t542)) else (laws_FnBounds.j0 k t550 t553 t555 t556 true t531 t534 t535 t536 t539 t540 t541 t542)))) = some r := H
   have A8 := ak_ A80
   clear A80
   replace H := Option.bind_eq_some_iff.mp H
   obtain ⟨t556, A90, H⟩ := H
   replace H : ((spec_UpBound.f k t531 t534 t535 t546 t549 t550).bind fun t557 => (if t555 = t557 then ((spec_DownBound.f k t536 t539 t540 t546 t549 t550).bind fun t558 => (laws_FnBounds.j0 k t550 t553 t555 t556 (t556 != t558) t531 t534 t535 t536 t539 t540 t541 t542)) else (laws_FnBounds.j0 k t550 t553 t555 t556 true t531 t534 t535 t536 t539 t540 t541 t542))) = some r := H
   have A9 := ak_ A90
   clear A90
   have HC10 := ak_ H
   clear H
   go_enter Try.func4, Try.ntmps4
   go_upto_region 9 with (first | ((with_reducible refine gate_callee (f := 20) rfl ?_); refine goesL_ (some 13) rfl rfl Try.func20 (by kernel_rfl) rfl #[.slice A0 l0.length c0] rfl (ma1_ rfl) ?_; (with_reducible refine (laws_big.calls _ _ l0 false _ ?side1 ?side2 A2.out).mono ?_); (case side1 => repeat (first | exact HR0.out | with_reducible first | apply ca_ | apply cn_ | apply cd_)); (case side2 => exact HC0.out); rintro e w' ⟨rfl, ⟨nd, rfl⟩⟩; refine ⟨_, rfl, ?_⟩) | ((with_reducible refine gate_callee (f := 21) rfl ?_); refine goesL_ (some 16) rfl rfl Try.func21 (by kernel_rfl) rfl #[.slice A0 l0.length c0] rfl (ma1_ rfl) ?_; (with_reducible refine (spec_DrawDecide.calls k _ _ l0 t531 t534 t535 t536 t539 t540 t541 t542 t543 t546 t549 t550 t551 _ ?side1 ?side2 A4.out).mono ?_); (case side1 => repeat (first | exact HR0.out | with_reducible first | apply ca_ | apply cn_ | apply cd_)); (case side2 => exact HC0.out); rintro e w11 ⟨v532, v537, v544, v547, rfl, ho0, ho1, ho2, ho3, hb⟩; refine ⟨_, rfl, ?_⟩; have HO533 := ak_ (Kd.R_lower ho0 (below_size hb_)); have HO538 := ak_ (Kd.R_lower ho1 (below_size hb_)); have HO545 := ak_ (Kd.R_lower ho2 (below_size hb_)); have HO548 := ak_ (Kd.R_lower ho3 (below_size hb_)); replace HB := ak_ (below_step hb_ hb); (try clear hb); (try clear hk); (try clear ho0); (try clear ho1); (try clear ho2); (try clear ho3)) | ((with_reducible refine gate_dst (N := 3) rfl ?_); refine be_ (N := 3) (cs := #[.slice none 0 0, .int .i64 0, .int .i64 0, .slice none 0 0, .int .i64 0, .int .i64 0, .int .i64 0, .int .i64 0]) (t := 35) ?_; intro gb552 hg w12 hbox hb; replace HO533 := ak_ (Kd.R_below (ro_ HO533) hb); replace HO538 := ak_ (Kd.R_below (ro_ HO538) hb); replace HO545 := ak_ (Kd.R_below (ro_ HO545) hb); replace HO548 := ak_ (Kd.R_below (ro_ HO548) hb); have BK552 := ak_ hbox; have GW552 := ak_ ((gs_ hg : w.heap.size ≤ gb552)); have GE552 := ak_ ((gs_ hg : w.heap.size ≤ gb552)); replace HB := ak_ (below_step hb_ hb); clear hb hbox hg; obtain ⟨Ao13, co13, eo13⟩ := Kd.R_slice HO533.out; subst eo13; obtain ⟨hcz14_0, hcz14_1, hcz14_2, hcz14_3, hcz14_4, hcz14_5, hcz14_6, hcz14_7, hfz14_0, hfz14_1, hfz14_2, hfz14_3, hfz14_4, hfz14_5, hfz14_6, hfz14_7⟩ := bc8_ BK552.out; obtain ⟨Ao15, co15, eo15⟩ := Kd.R_slice HO538.out; subst eo15; obtain ⟨Ao16, co16, eo16⟩ := Kd.R_slice HO545.out; subst eo16; obtain ⟨Ao17, co17, eo17⟩ := Kd.R_slice HO548.out; subst eo17) | ((with_reducible refine gate_callee (f := 22) rfl ?_); refine goesL_ (some 29) rfl rfl Try.func22 (by kernel_rfl) rfl #[.agg #[.slice Ao13 t531.length co13, .int .i64 t534, .int .i64 t535, .slice Ao15 t536.length co15, .int .i64 t539, .int .i64 t540, .int .i64 t541, .int .i64 t542], .slice Ao16 t543.length co16, .slice Ao17 t546.length co17, .int .i64 t549, .int .i64 t550, .int .i64 t551] rfl (ma6_ rfl rfl rfl rfl rfl rfl) ?_; (with_reducible refine (impl_Decide.calls k _ _ t531 t534 t535 _ _ t536 t539 t540 t541 t542 _ _ t543 _ _ t546 t549 t550 t551 t553 _ ?side1 ?side2 ?side3 ?side4 ?side5 ?side6 ?side7 ?side8 A5.out).mono ?_); (case side1 => refine (Kd.R_reads' (e := 96) (base := w.heap.size) (ok := fun k_ => some k_ ≠ (.slice Ao15 t536.length co15 : Value).ownBlock) (n := t531.length) (c := co13) ?_).2.2; exact (by (with_reducible repeat (first | apply Kd.R_alloc | apply Kd.R_drewN | apply Kd.R_drew)); exact (Kd.R_mono (Kd.R_far (p := ⟨gb552, 7, none⟩) (Kd.R_far (p := ⟨gb552, 6, none⟩) (Kd.R_far (p := ⟨gb552, 5, none⟩) (Kd.R_far (p := ⟨gb552, 4, none⟩) (Kd.R_far (p := ⟨gb552, 3, none⟩) (Kd.R_far (p := ⟨gb552, 2, none⟩) (Kd.R_far (p := ⟨gb552, 1, none⟩) (Kd.R_far (p := ⟨gb552, 0, none⟩) (Kd.R_types HO533.out BK552.out (by decide)) (fun _ hk => hk.2) (.slice Ao13 t531.length co13)) (fun _ hk => hk.2) (.int .i64 t534)) (fun _ hk => hk.2) (.int .i64 t535)) (fun _ hk => hk.2) (.slice Ao15 t536.length co15)) (fun _ hk => hk.2) (.int .i64 t539)) (fun _ hk => hk.2) (.int .i64 t540)) (fun _ hk => hk.2) (.int .i64 t541)) (fun _ hk => hk.2) (.int .i64 t542)) (fun _ h_ => h_.1)))); (case side2 => exact (Kd.R_reads' HO533.out).2.1); (case side3 => refine (Kd.R_reads' (e := 96) (base := w.heap.size) (ok := fun k_ => some k_ ≠ (.slice Ao13 t531.length co13 : Value).ownBlock) (n := t536.length) (c := co15) ?_).2.2; exact (by (with_reducible repeat (first | apply Kd.R_alloc | apply Kd.R_drewN | apply Kd.R_drew)); exact (Kd.R_mono (Kd.R_far (p := ⟨gb552, 7, none⟩) (Kd.R_far (p := ⟨gb552, 6, none⟩) (Kd.R_far (p := ⟨gb552, 5, none⟩) (Kd.R_far (p := ⟨gb552, 4, none⟩) (Kd.R_far (p := ⟨gb552, 3, none⟩) (Kd.R_far (p := ⟨gb552, 2, none⟩) (Kd.R_far (p := ⟨gb552, 1, none⟩) (Kd.R_far (p := ⟨gb552, 0, none⟩) (Kd.R_types HO538.out BK552.out (by decide)) (fun _ hk => hk.2) (.slice Ao13 t531.length co13)) (fun _ hk => hk.2) (.int .i64 t534)) (fun _ hk => hk.2) (.int .i64 t535)) (fun _ hk => hk.2) (.slice Ao15 t536.length co15)) (fun _ hk => hk.2) (.int .i64 t539)) (fun _ hk => hk.2) (.int .i64 t540)) (fun _ hk => hk.2) (.int .i64 t541)) (fun _ hk => hk.2) (.int .i64 t542)) (fun _ h_ => h_.1)))); (case side4 => exact (Kd.R_reads' HO538.out).2.1); (case side5 => refine (Kd.R_reads' (e := 109) (base := w.heap.size) (ok := fun k_ => True) (n := t543.length) (c := co16) ?_).2.2; exact (by (with_reducible repeat (first | apply Kd.R_alloc | apply Kd.R_drewN | apply Kd.R_drew)); exact (Kd.R_mono (Kd.R_far (p := ⟨gb552, 7, none⟩) (Kd.R_far (p := ⟨gb552, 6, none⟩) (Kd.R_far (p := ⟨gb552, 5, none⟩) (Kd.R_far (p := ⟨gb552, 4, none⟩) (Kd.R_far (p := ⟨gb552, 3, none⟩) (Kd.R_far (p := ⟨gb552, 2, none⟩) (Kd.R_far (p := ⟨gb552, 1, none⟩) (Kd.R_far (p := ⟨gb552, 0, none⟩) (Kd.R_types HO545.out BK552.out (by decide)) (fun _ hk => hk.2) (.slice Ao13 t531.length co13)) (fun _ hk => hk.2) (.int .i64 t534)) (fun _ hk => hk.2) (.int .i64 t535)) (fun _ hk => hk.2) (.slice Ao15 t536.length co15)) (fun _ hk => hk.2) (.int .i64 t539)) (fun _ hk => hk.2) (.int .i64 t540)) (fun _ hk => hk.2) (.int .i64 t541)) (fun _ hk => hk.2) (.int .i64 t542)) (fun _ h_ => h_.1)))); (case side6 => exact (Kd.R_reads' HO545.out).2.1); (case side7 => refine (Kd.R_reads' (e := 103) (base := w.heap.size) (ok := fun k_ => True) (n := t546.length) (c := co17) ?_).2.2; exact (by (with_reducible repeat (first | apply Kd.R_alloc | apply Kd.R_drewN | apply Kd.R_drew)); exact (Kd.R_mono (Kd.R_far (p := ⟨gb552, 7, none⟩) (Kd.R_far (p := ⟨gb552, 6, none⟩) (Kd.R_far (p := ⟨gb552, 5, none⟩) (Kd.R_far (p := ⟨gb552, 4, none⟩) (Kd.R_far (p := ⟨gb552, 3, none⟩) (Kd.R_far (p := ⟨gb552, 2, none⟩) (Kd.R_far (p := ⟨gb552, 1, none⟩) (Kd.R_far (p := ⟨gb552, 0, none⟩) (Kd.R_types HO548.out BK552.out (by decide)) (fun _ hk => hk.2) (.slice Ao13 t531.length co13)) (fun _ hk => hk.2) (.int .i64 t534)) (fun _ hk => hk.2) (.int .i64 t535)) (fun _ hk => hk.2) (.slice Ao15 t536.length co15)) (fun _ hk => hk.2) (.int .i64 t539)) (fun _ hk => hk.2) (.int .i64 t540)) (fun _ hk => hk.2) (.int .i64 t541)) (fun _ hk => hk.2) (.int .i64 t542)) (fun _ h_ => h_.1)))); (case side8 => exact (Kd.R_reads' HO548.out).2.1); rintro e w18 ⟨rfl, hb⟩; refine ⟨_, rfl, ?_⟩; replace HO533 := ak_ (Kd.R_below (by (with_reducible repeat (first | apply Kd.R_alloc | apply Kd.R_drewN | apply Kd.R_drew)); exact (Kd.R_mono (Kd.R_far (p := ⟨gb552, 7, none⟩) (Kd.R_far (p := ⟨gb552, 6, none⟩) (Kd.R_far (p := ⟨gb552, 5, none⟩) (Kd.R_far (p := ⟨gb552, 4, none⟩) (Kd.R_far (p := ⟨gb552, 3, none⟩) (Kd.R_far (p := ⟨gb552, 2, none⟩) (Kd.R_far (p := ⟨gb552, 1, none⟩) (Kd.R_far (p := ⟨gb552, 0, none⟩) (Kd.R_types HO533.out BK552.out (by decide)) (fun _ hk => hk.2) (.slice Ao13 t531.length co13)) (fun _ hk => hk.2) (.int .i64 t534)) (fun _ hk => hk.2) (.int .i64 t535)) (fun _ hk => hk.2) (.slice Ao15 t536.length co15)) (fun _ hk => hk.2) (.int .i64 t539)) (fun _ hk => hk.2) (.int .i64 t540)) (fun _ hk => hk.2) (.int .i64 t541)) (fun _ hk => hk.2) (.int .i64 t542)) (fun _ h_ => h_.1))) hb); replace HO538 := ak_ (Kd.R_below (by (with_reducible repeat (first | apply Kd.R_alloc | apply Kd.R_drewN | apply Kd.R_drew)); exact (Kd.R_mono (Kd.R_far (p := ⟨gb552, 7, none⟩) (Kd.R_far (p := ⟨gb552, 6, none⟩) (Kd.R_far (p := ⟨gb552, 5, none⟩) (Kd.R_far (p := ⟨gb552, 4, none⟩) (Kd.R_far (p := ⟨gb552, 3, none⟩) (Kd.R_far (p := ⟨gb552, 2, none⟩) (Kd.R_far (p := ⟨gb552, 1, none⟩) (Kd.R_far (p := ⟨gb552, 0, none⟩) (Kd.R_types HO538.out BK552.out (by decide)) (fun _ hk => hk.2) (.slice Ao13 t531.length co13)) (fun _ hk => hk.2) (.int .i64 t534)) (fun _ hk => hk.2) (.int .i64 t535)) (fun _ hk => hk.2) (.slice Ao15 t536.length co15)) (fun _ hk => hk.2) (.int .i64 t539)) (fun _ hk => hk.2) (.int .i64 t540)) (fun _ hk => hk.2) (.int .i64 t541)) (fun _ hk => hk.2) (.int .i64 t542)) (fun _ h_ => h_.1))) hb); replace HO545 := ak_ (Kd.R_below (by (with_reducible repeat (first | apply Kd.R_alloc | apply Kd.R_drewN | apply Kd.R_drew)); exact (Kd.R_mono (Kd.R_far (p := ⟨gb552, 7, none⟩) (Kd.R_far (p := ⟨gb552, 6, none⟩) (Kd.R_far (p := ⟨gb552, 5, none⟩) (Kd.R_far (p := ⟨gb552, 4, none⟩) (Kd.R_far (p := ⟨gb552, 3, none⟩) (Kd.R_far (p := ⟨gb552, 2, none⟩) (Kd.R_far (p := ⟨gb552, 1, none⟩) (Kd.R_far (p := ⟨gb552, 0, none⟩) (Kd.R_types HO545.out BK552.out (by decide)) (fun _ hk => hk.2) (.slice Ao13 t531.length co13)) (fun _ hk => hk.2) (.int .i64 t534)) (fun _ hk => hk.2) (.int .i64 t535)) (fun _ hk => hk.2) (.slice Ao15 t536.length co15)) (fun _ hk => hk.2) (.int .i64 t539)) (fun _ hk => hk.2) (.int .i64 t540)) (fun _ hk => hk.2) (.int .i64 t541)) (fun _ hk => hk.2) (.int .i64 t542)) (fun _ h_ => h_.1))) hb); replace HO548 := ak_ (Kd.R_below (by (with_reducible repeat (first | apply Kd.R_alloc | apply Kd.R_drewN | apply Kd.R_drew)); exact (Kd.R_mono (Kd.R_far (p := ⟨gb552, 7, none⟩) (Kd.R_far (p := ⟨gb552, 6, none⟩) (Kd.R_far (p := ⟨gb552, 5, none⟩) (Kd.R_far (p := ⟨gb552, 4, none⟩) (Kd.R_far (p := ⟨gb552, 3, none⟩) (Kd.R_far (p := ⟨gb552, 2, none⟩) (Kd.R_far (p := ⟨gb552, 1, none⟩) (Kd.R_far (p := ⟨gb552, 0, none⟩) (Kd.R_types HO548.out BK552.out (by decide)) (fun _ hk => hk.2) (.slice Ao13 t531.length co13)) (fun _ hk => hk.2) (.int .i64 t534)) (fun _ hk => hk.2) (.int .i64 t535)) (fun _ hk => hk.2) (.slice Ao15 t536.length co15)) (fun _ hk => hk.2) (.int .i64 t539)) (fun _ hk => hk.2) (.int .i64 t540)) (fun _ hk => hk.2) (.int .i64 t541)) (fun _ hk => hk.2) (.int .i64 t542)) (fun _ h_ => h_.1))) hb); replace BK552 := ak_ (blk_below (g := gb552) (o := .cells #[.slice Ao13 t531.length co13, .int .i64 t534, .int .i64 t535, .slice Ao15 t536.length co15, .int .i64 t539, .int .i64 t540, .int .i64 t541, .int .i64 t542] 35 (0, 0)) (by (with_reducible repeat (first | refine kn_ ?_ _ | refine kd_ ?_ | refine ka_ ?_ _)); refine blk_put (cs := #[.slice Ao13 t531.length co13, .int .i64 t534, .int .i64 t535, .slice Ao15 t536.length co15, .int .i64 t539, .int .i64 t540, .int .i64 t541, .int .i64 0]) ?_ 7 _ rfl; (with_reducible repeat (first | refine kn_ ?_ _ | refine kd_ ?_ | refine ka_ ?_ _)); refine blk_put (cs := #[.slice Ao13 t531.length co13, .int .i64 t534, .int .i64 t535, .slice Ao15 t536.length co15, .int .i64 t539, .int .i64 t540, .int .i64 0, .int .i64 0]) ?_ 6 _ rfl; (with_reducible repeat (first | refine kn_ ?_ _ | refine kd_ ?_ | refine ka_ ?_ _)); refine blk_put (cs := #[.slice Ao13 t531.length co13, .int .i64 t534, .int .i64 t535, .slice Ao15 t536.length co15, .int .i64 t539, .int .i64 0, .int .i64 0, .int .i64 0]) ?_ 5 _ rfl; (with_reducible repeat (first | refine kn_ ?_ _ | refine kd_ ?_ | refine ka_ ?_ _)); refine blk_put (cs := #[.slice Ao13 t531.length co13, .int .i64 t534, .int .i64 t535, .slice Ao15 t536.length co15, .int .i64 0, .int .i64 0, .int .i64 0, .int .i64 0]) ?_ 4 _ rfl; (with_reducible repeat (first | refine kn_ ?_ _ | refine kd_ ?_ | refine ka_ ?_ _)); refine blk_put (cs := #[.slice Ao13 t531.length co13, .int .i64 t534, .int .i64 t535, .slice none 0 0, .int .i64 0, .int .i64 0, .int .i64 0, .int .i64 0]) ?_ 3 _ rfl; (with_reducible repeat (first | refine kn_ ?_ _ | refine kd_ ?_ | refine ka_ ?_ _)); refine blk_put (cs := #[.slice Ao13 t531.length co13, .int .i64 t534, .int .i64 0, .slice none 0 0, .int .i64 0, .int .i64 0, .int .i64 0, .int .i64 0]) ?_ 2 _ rfl; (with_reducible repeat (first | refine kn_ ?_ _ | refine kd_ ?_ | refine ka_ ?_ _)); refine blk_put (cs := #[.slice Ao13 t531.length co13, .int .i64 0, .int .i64 0, .slice none 0 0, .int .i64 0, .int .i64 0, .int .i64 0, .int .i64 0]) ?_ 1 _ rfl; (with_reducible repeat (first | refine kn_ ?_ _ | refine kd_ ?_ | refine ka_ ?_ _)); refine blk_put (cs := #[.slice none 0 0, .int .i64 0, .int .i64 0, .slice none 0 0, .int .i64 0, .int .i64 0, .int .i64 0, .int .i64 0]) ?_ 0 _ rfl; (with_reducible repeat (first | refine kn_ ?_ _ | refine kd_ ?_ | refine ka_ ?_ _)); exact BK552.out) hb); replace HB := ak_ (below_step hb_ hb); (try clear hb); (try clear hk); obtain ⟨hcz19_0, hcz19_1, hcz19_2, hcz19_3, hcz19_4, hcz19_5, hcz19_6, hcz19_7, hfz19_0, hfz19_1, hfz19_2, hfz19_3, hfz19_4, hfz19_5, hfz19_6, hfz19_7⟩ := bc8_ BK552.out) | ((with_reducible refine gate_callee (f := 23) rfl ?_); refine goesL_ (some 37) rfl rfl Try.func23 (by kernel_rfl) rfl #[.agg #[.slice Ao13 t531.length co13, .int .i64 t534, .int .i64 t535, .slice Ao15 t536.length co15, .int .i64 t539, .int .i64 t540, .int .i64 t541, .int .i64 t542], .slice Ao16 t543.length co16, .slice Ao17 t546.length co17, .int .i64 t549, .int .i64 t550, .int .i64 t551] rfl (ma6_ rfl rfl rfl rfl rfl rfl) ?_; (with_reducible refine (spec_Decide.calls k _ _ t531 t534 t535 _ _ t536 t539 t540 t541 t542 _ _ t543 _ _ t546 t549 t550 t551 t554 _ ?side1 ?side2 ?side3 ?side4 ?side5 ?side6 ?side7 ?side8 A6.out).mono ?_); (case side1 => repeat (first | exact (Kd.R_reads' HO533.out).2.2 | (with_reducible refine Kd.C_alloc ?_ _) | (with_reducible refine Kd.C_drewN ?_ _) | (with_reducible refine Kd.C_drew ?_))); (case side2 => exact (Kd.R_reads' HO533.out).2.1); (case side3 => repeat (first | exact (Kd.R_reads' HO538.out).2.2 | (with_reducible refine Kd.C_alloc ?_ _) | (with_reducible refine Kd.C_drewN ?_ _) | (with_reducible refine Kd.C_drew ?_))); (case side4 => exact (Kd.R_reads' HO538.out).2.1); (case side5 => repeat (first | exact (Kd.R_reads' HO545.out).2.2 | (with_reducible refine Kd.C_alloc ?_ _) | (with_reducible refine Kd.C_drewN ?_ _) | (with_reducible refine Kd.C_drew ?_))); (case side6 => exact (Kd.R_reads' HO545.out).2.1); (case side7 => repeat (first | exact (Kd.R_reads' HO548.out).2.2 | (with_reducible refine Kd.C_alloc ?_ _) | (with_reducible refine Kd.C_drewN ?_ _) | (with_reducible refine Kd.C_drew ?_))); (case side8 => exact (Kd.R_reads' HO548.out).2.1); rintro e w20 ⟨rfl, hb⟩; refine ⟨_, rfl, ?_⟩; replace HO533 := ak_ (Kd.R_below (ro_ HO533) hb); replace HO538 := ak_ (Kd.R_below (ro_ HO538) hb); replace HO545 := ak_ (Kd.R_below (ro_ HO545) hb); replace HO548 := ak_ (Kd.R_below (ro_ HO548) hb); replace BK552 := ak_ (blk_below (bk_ BK552) hb); replace HB := ak_ (below_step hb_ hb); (try clear hb); (try clear hk); obtain ⟨hcz21_0, hcz21_1, hcz21_2, hcz21_3, hcz21_4, hcz21_5, hcz21_6, hcz21_7, hfz21_0, hfz21_1, hfz21_2, hfz21_3, hfz21_4, hfz21_5, hfz21_6, hfz21_7⟩ := bc8_ BK552.out) | ((with_reducible refine gate_callee (f := 24) rfl ?_); refine goesL_ (some 44) rfl rfl Try.func24 (by kernel_rfl) rfl #[.agg #[.slice Ao13 t531.length co13, .int .i64 t534, .int .i64 t535], .slice Ao17 t546.length co17, .int .i64 t549, .int .i64 t550] rfl (ma4_ rfl rfl rfl rfl) ?_; (with_reducible refine (impl_UpBound.calls k _ _ t531 t534 t535 _ _ t546 t549 t550 t555 _ ?side1 ?side2 ?side3 ?side4 A8.out).mono ?_); (case side1 => repeat (first | exact (Kd.R_reads' HO533.out).2.2 | (with_reducible refine Kd.C_alloc ?_ _) | (with_reducible refine Kd.C_drewN ?_ _) | (with_reducible refine Kd.C_drew ?_))); (case side2 => exact (Kd.R_reads' HO533.out).2.1); (case side3 => repeat (first | exact (Kd.R_reads' HO548.out).2.2 | (with_reducible refine Kd.C_alloc ?_ _) | (with_reducible refine Kd.C_drewN ?_ _) | (with_reducible refine Kd.C_drew ?_))); (case side4 => exact (Kd.R_reads' HO548.out).2.1); rintro e w22 ⟨rfl, hb⟩; refine ⟨_, rfl, ?_⟩; replace HO533 := ak_ (Kd.R_below (ro_ HO533) hb); replace HO538 := ak_ (Kd.R_below (ro_ HO538) hb); replace HO545 := ak_ (Kd.R_below (ro_ HO545) hb); replace HO548 := ak_ (Kd.R_below (ro_ HO548) hb); replace BK552 := ak_ (blk_below (bk_ BK552) hb); replace HB := ak_ (below_step hb_ hb); (try clear hb); (try clear hk); obtain ⟨hcz23_0, hcz23_1, hcz23_2, hcz23_3, hcz23_4, hcz23_5, hcz23_6, hcz23_7, hfz23_0, hfz23_1, hfz23_2, hfz23_3, hfz23_4, hfz23_5, hfz23_6, hfz23_7⟩ := bc8_ BK552.out) | ((with_reducible refine gate_callee (f := 25) rfl ?_); refine goesL_ (some 50) rfl rfl Try.func25 (by kernel_rfl) rfl #[.agg #[.slice Ao15 t536.length co15, .int .i64 t539, .int .i64 t540], .slice Ao17 t546.length co17, .int .i64 t549, .int .i64 t550] rfl (ma4_ rfl rfl rfl rfl) ?_; (with_reducible refine (impl_DownBound.calls k _ _ t536 t539 t540 _ _ t546 t549 t550 t556 _ ?side1 ?side2 ?side3 ?side4 A9.out).mono ?_); (case side1 => repeat (first | exact (Kd.R_reads' HO538.out).2.2 | (with_reducible refine Kd.C_alloc ?_ _) | (with_reducible refine Kd.C_drewN ?_ _) | (with_reducible refine Kd.C_drew ?_))); (case side2 => exact (Kd.R_reads' HO538.out).2.1); (case side3 => repeat (first | exact (Kd.R_reads' HO548.out).2.2 | (with_reducible refine Kd.C_alloc ?_ _) | (with_reducible refine Kd.C_drewN ?_ _) | (with_reducible refine Kd.C_drew ?_))); (case side4 => exact (Kd.R_reads' HO548.out).2.1); rintro e w24 ⟨rfl, hb⟩; refine ⟨_, rfl, ?_⟩; replace HO533 := ak_ (Kd.R_below (ro_ HO533) hb); replace HO538 := ak_ (Kd.R_below (ro_ HO538) hb); replace HO545 := ak_ (Kd.R_below (ro_ HO545) hb); replace HO548 := ak_ (Kd.R_below (ro_ HO548) hb); replace BK552 := ak_ (blk_below (bk_ BK552) hb); replace HB := ak_ (below_step hb_ hb); (try clear hb); (try clear hk)))
   (try simp only [Act.put, List.setIfInBounds_toArray, List.set_cons_zero, List.set_cons_succ])
   go_cut [68] (fun v68 wc => ∃ (kq : Nat) (x68_9 : Bool), v68 = .bool x68_9 ∧ Aside0 (laws_FnBounds.j0 kq t550 t553 t555 t556 x68_9 t531 t534 t535 t536 t539 t540 t541 t542 = some r) ∧ Aside0 (kq ≤ k) ∧ Aside0 (Kd.R k96 96 wc w.heap.size (fun k_ => some k_ ≠ ((.slice Ao15 t536.length co15) : Value).ownBlock) (.slice Ao13 t531.length co13) t531) ∧ Aside0 (Kd.R k96 96 wc w.heap.size (fun k_ => some k_ ≠ ((.slice Ao13 t531.length co13) : Value).ownBlock) (.slice Ao15 t536.length co15) t536) ∧ Aside0 (wc.heap[gb552]? = some (.cells #[(.slice Ao13 t531.length co13), .int .i64 t534, .int .i64 t535, (.slice Ao15 t536.length co15), .int .i64 t539, .int .i64 t540, .int .i64 t541, .int .i64 t542] 35 (0, 0))) ∧ Aside0 (Below w.heap.size w wc))
   case first =>
    have H := HC10.out
    clear HC10
    replace H := Option.bind_eq_some_iff.mp H
    obtain ⟨t557, A250, H⟩ := H
    replace H : (if t555 = t557 then ((spec_DownBound.f k t536 t539 t540 t546 t549 t550).bind fun t558 => (laws_FnBounds.j0 k t550 t553 t555 t556 (t556 != t558) t531 t534 t535 t536 t539 t540 t541 t542)) else (laws_FnBounds.j0 k t550 t553 t555 t556 true t531 t534 t535 t536 t539 t540 t541 t542)) = some r := H
    have A25 := ak_ A250
    clear A250
    by_cases c26 : t555 = t557
    ·rw [if_pos c26] at H
     have c26b0 : (t555 == t557) = true := beq_iff_eq.mpr c26
     have c26b1 : (t555 != t557) = false := bne_eq_false_iff_eq.mpr c26
     clear c26
     (first | rw [c26b0] | (simp only [i64_w, i32_w]; rw [c26b0]) | skip)
     replace H := Option.bind_eq_some_iff.mp H
     obtain ⟨t558, A270, H⟩ := H
     replace H : (laws_FnBounds.j0 k t550 t553 t555 t556 (t556 != t558) t531 t534 t535 t536 t539 t540 t541 t542) = some r := H
     have A27 := ak_ A270
     clear A270
     have H' := ak_ H
     clear H
     obtain ⟨hcz28_0, hcz28_1, hcz28_2, hcz28_3, hcz28_4, hcz28_5, hcz28_6, hcz28_7, hfz28_0, hfz28_1, hfz28_2, hfz28_3, hfz28_4, hfz28_5, hfz28_6, hfz28_7⟩ := bc8_ BK552.out
     go_wp2_with (first | ((with_reducible refine gate_callee (f := 26) rfl ?_); refine goesL_ (some 57) rfl rfl Try.func26 (by kernel_rfl) rfl #[.agg #[.slice Ao13 t531.length co13, .int .i64 t534, .int .i64 t535], .slice Ao17 t546.length co17, .int .i64 t549, .int .i64 t550] rfl (ma4_ rfl rfl rfl rfl) ?_; (with_reducible refine (spec_UpBound.calls k _ _ t531 t534 t535 _ _ t546 t549 t550 t557 _ ?side1 ?side2 ?side3 ?side4 A25.out).mono ?_); (case side1 => repeat (first | exact (Kd.R_reads' HO533.out).2.2 | (with_reducible refine Kd.C_alloc ?_ _) | (with_reducible refine Kd.C_drewN ?_ _) | (with_reducible refine Kd.C_drew ?_))); (case side2 => exact (Kd.R_reads' HO533.out).2.1); (case side3 => repeat (first | exact (Kd.R_reads' HO548.out).2.2 | (with_reducible refine Kd.C_alloc ?_ _) | (with_reducible refine Kd.C_drewN ?_ _) | (with_reducible refine Kd.C_drew ?_))); (case side4 => exact (Kd.R_reads' HO548.out).2.1); rintro e w29 ⟨rfl, hb⟩; refine ⟨_, rfl, ?_⟩; replace HO533 := ak_ (Kd.R_below (ro_ HO533) hb); replace HO538 := ak_ (Kd.R_below (ro_ HO538) hb); replace HO545 := ak_ (Kd.R_below (ro_ HO545) hb); replace HO548 := ak_ (Kd.R_below (ro_ HO548) hb); replace BK552 := ak_ (blk_below (bk_ BK552) hb); replace HB := ak_ (below_step hb_ hb); (try clear hb); obtain ⟨hcz30_0, hcz30_1, hcz30_2, hcz30_3, hcz30_4, hcz30_5, hcz30_6, hcz30_7, hfz30_0, hfz30_1, hfz30_2, hfz30_3, hfz30_4, hfz30_5, hfz30_6, hfz30_7⟩ := bc8_ BK552.out) | (go_at_call 27; (with_reducible refine (spec_DownBound.calls k _ _ t536 t539 t540 _ _ t546 t549 t550 t558 _ ?side1 ?side2 ?side3 ?side4 A27.out).mono ?_); (case side1 => repeat (first | exact (Kd.R_reads' HO538.out).2.2 | (with_reducible refine Kd.C_alloc ?_ _) | (with_reducible refine Kd.C_drewN ?_ _) | (with_reducible refine Kd.C_drew ?_))); (case side2 => exact (Kd.R_reads' HO538.out).2.1); (case side3 => repeat (first | exact (Kd.R_reads' HO548.out).2.2 | (with_reducible refine Kd.C_alloc ?_ _) | (with_reducible refine Kd.C_drewN ?_ _) | (with_reducible refine Kd.C_drew ?_))); (case side4 => exact (Kd.R_reads' HO548.out).2.1); rintro e w31 ⟨rfl, hb⟩; replace HO533 := ak_ (Kd.R_below (ro_ HO533) hb); replace HO538 := ak_ (Kd.R_below (ro_ HO538) hb); replace HO545 := ak_ (Kd.R_below (ro_ HO545) hb); replace HO548 := ak_ (Kd.R_below (ro_ HO548) hb); replace BK552 := ak_ (blk_below (bk_ BK552) hb); replace HB := ak_ (below_step hb_ hb); (try clear hb)))
     go_meet
     case rel => exact ⟨_, ((t556 != t558)), (by first | rfl | (simp; done) | (simp [*]; done)), H', ⟨by first | omega | exact Nat.le_refl _⟩, ⟨by (with_reducible repeat (first | apply Kd.R_alloc | apply Kd.R_drewN | apply Kd.R_drew)); exact HO533.out⟩, ⟨by (with_reducible repeat (first | apply Kd.R_alloc | apply Kd.R_drewN | apply Kd.R_drew)); exact HO538.out⟩, ⟨by (with_reducible repeat (first | refine kn_ ?_ _ | refine kd_ ?_ | refine ka_ ?_ _)); exact BK552.out⟩, ⟨hb_⟩⟩
    ·rw [if_neg c26] at H
     have c26b0 : (t555 == t557) = false := beq_eq_false_iff_ne.mpr c26
     have c26b1 : (t555 != t557) = true := bne_iff_ne.mpr c26
     (first | rw [c26b0] | (simp only [i64_w, i32_w]; rw [c26b0]) | skip)
     have H' := ak_ H
     clear H
     obtain ⟨hcz32_0, hcz32_1, hcz32_2, hcz32_3, hcz32_4, hcz32_5, hcz32_6, hcz32_7, hfz32_0, hfz32_1, hfz32_2, hfz32_3, hfz32_4, hfz32_5, hfz32_6, hfz32_7⟩ := bc8_ BK552.out
     go_wp2_with (first | ((with_reducible refine gate_callee (f := 26) rfl ?_); refine goesL_ (some 57) rfl rfl Try.func26 (by kernel_rfl) rfl #[.agg #[.slice Ao13 t531.length co13, .int .i64 t534, .int .i64 t535], .slice Ao17 t546.length co17, .int .i64 t549, .int .i64 t550] rfl (ma4_ rfl rfl rfl rfl) ?_; (with_reducible refine (spec_UpBound.calls k _ _ t531 t534 t535 _ _ t546 t549 t550 t557 _ ?side1 ?side2 ?side3 ?side4 A25.out).mono ?_); (case side1 => repeat (first | exact (Kd.R_reads' HO533.out).2.2 | (with_reducible refine Kd.C_alloc ?_ _) | (with_reducible refine Kd.C_drewN ?_ _) | (with_reducible refine Kd.C_drew ?_))); (case side2 => exact (Kd.R_reads' HO533.out).2.1); (case side3 => repeat (first | exact (Kd.R_reads' HO548.out).2.2 | (with_reducible refine Kd.C_alloc ?_ _) | (with_reducible refine Kd.C_drewN ?_ _) | (with_reducible refine Kd.C_drew ?_))); (case side4 => exact (Kd.R_reads' HO548.out).2.1); rintro e w33 ⟨rfl, hb⟩; refine ⟨_, rfl, ?_⟩; replace HO533 := ak_ (Kd.R_below (ro_ HO533) hb); replace HO538 := ak_ (Kd.R_below (ro_ HO538) hb); replace HO545 := ak_ (Kd.R_below (ro_ HO545) hb); replace HO548 := ak_ (Kd.R_below (ro_ HO548) hb); replace BK552 := ak_ (blk_below (bk_ BK552) hb); replace HB := ak_ (below_step hb_ hb); (try clear hb)))
     go_meet
     case rel => exact ⟨_, (true), (by first | rfl | (simp; done) | (simp [*]; done)), H', ⟨by first | omega | exact Nat.le_refl _⟩, ⟨by (with_reducible repeat (first | apply Kd.R_alloc | apply Kd.R_drewN | apply Kd.R_drew)); exact HO533.out⟩, ⟨by (with_reducible repeat (first | apply Kd.R_alloc | apply Kd.R_drewN | apply Kd.R_drew)); exact HO538.out⟩, ⟨by (with_reducible repeat (first | refine kn_ ?_ _ | refine kd_ ?_ | refine ka_ ?_ _)); exact BK552.out⟩, ⟨hb_⟩⟩
   case rest =>
    clear HC10
    try clear c2
    try clear p2
    try clear c3
    try clear c4
    try clear c7
    try clear c7b0
    try clear c7b1
    try clear c20
    try clear c21
    try clear c22
    try clear c23
    try clear c24
    try clear c25
    try clear c26
    try clear c26b0
    try clear c26b1
    (try clear hcz14_0 hcz14_1 hcz14_2 hcz14_3 hcz14_4 hcz14_5 hcz14_6 hcz14_7 hfz14_0 hfz14_1 hfz14_2 hfz14_3 hfz14_4 hfz14_5 hfz14_6 hfz14_7); (try clear hcz19_0 hcz19_1 hcz19_2 hcz19_3 hcz19_4 hcz19_5 hcz19_6 hcz19_7 hfz19_0 hfz19_1 hfz19_2 hfz19_3 hfz19_4 hfz19_5 hfz19_6 hfz19_7); (try clear hcz21_0 hcz21_1 hcz21_2 hcz21_3 hcz21_4 hcz21_5 hcz21_6 hcz21_7 hfz21_0 hfz21_1 hfz21_2 hfz21_3 hfz21_4 hfz21_5 hfz21_6 hfz21_7); (try clear hcz23_0 hcz23_1 hcz23_2 hcz23_3 hcz23_4 hcz23_5 hcz23_6 hcz23_7 hfz23_0 hfz23_1 hfz23_2 hfz23_3 hfz23_4 hfz23_5 hfz23_6 hfz23_7); (try clear hcz28_0 hcz28_1 hcz28_2 hcz28_3 hcz28_4 hcz28_5 hcz28_6 hcz28_7 hfz28_0 hfz28_1 hfz28_2 hfz28_3 hfz28_4 hfz28_5 hfz28_6 hfz28_7); (try clear hcz30_0 hcz30_1 hcz30_2 hcz30_3 hcz30_4 hcz30_5 hcz30_6 hcz30_7 hfz30_0 hfz30_1 hfz30_2 hfz30_3 hfz30_4 hfz30_5 hfz30_6 hfz30_7); (try clear hcz32_0 hcz32_1 hcz32_2 hcz32_3 hcz32_4 hcz32_5 hcz32_6 hcz32_7 hfz32_0 hfz32_1 hfz32_2 hfz32_3 hfz32_4 hfz32_5 hfz32_6 hfz32_7)
    obtain ⟨kq, x68_9, rfl, HA, HJ9, HO_553000, HO_553003, BK552, HB⟩ := hcut
    cases kq with
    | zero => exact absurd HA.out (by simp [laws_FnBounds.j0])
    | succ kj9 =>
     have H := HA.out
     clear HA
     simp only [laws_FnBounds.j0] at H
     by_cases c34 : x68_9 = true
     ·subst c34
      rw [if_pos rfl] at H
      exact absurd (Option.some.inj H) (by rw [hrT.out]; decide)
     ·replace c34 := Bool.eq_false_iff.mpr c34
      subst c34
      rw [if_neg (show ¬ (false = true) by decide)] at H
      by_cases c35 : t553 < 0
      ·rw [if_pos c35] at H
       have c35b0 : decide (t553 < 0) = true := decide_eq_true c35
       clear c35
       obtain rfl := Option.some.inj H
       go_wp2
       go_ret
       exact ⟨ew_, hb_⟩
      ·rw [if_neg c35] at H
       have c35b0 : decide (t553 < 0) = false := decide_eq_false c35
       clear c35
       by_cases c36 : t555 < t550
       ·rw [if_pos c36] at H
        have c36b0 : decide (t555 < t550) = true := decide_eq_true c36
        clear c36
        exact absurd (Option.some.inj H) (by rw [hrT.out]; decide)
       ·rw [if_neg c36] at H
        have c36b0 : decide (t555 < t550) = false := decide_eq_false c36
        clear c36
        by_cases c37 : t556 > t550
        ·rw [if_pos c37] at H
         have c37b0 : decide (t550 < t556) = true := decide_eq_true c37
         clear c37
         exact absurd (Option.some.inj H) (by rw [hrT.out]; decide)
        ·rw [if_neg c37] at H
         have c37b0 : decide (t550 < t556) = false := decide_eq_false c37
         clear c37
         by_cases c38 : t534 = 2
         ·rw [if_pos c38] at H
          have c38b0 : (t534 == 2) = true := beq_iff_eq.mpr c38
          have c38b1 : (t534 != 2) = false := bne_eq_false_iff_eq.mpr c38
          clear c38
          by_cases c39 : t555 = t550
          ·rw [if_pos c39] at H
           have c39b0 : (t555 == t550) = true := beq_iff_eq.mpr c39
           have c39b1 : (t555 != t550) = false := bne_eq_false_iff_eq.mpr c39
           clear c39
           by_cases c40 : t539 = 2
           ·rw [if_pos c40] at H
            have c40b0 : (t539 == 2) = true := beq_iff_eq.mpr c40
            have c40b1 : (t539 != 2) = false := bne_eq_false_iff_eq.mpr c40
            clear c40
            by_cases c41 : t556 = t550
            ·rw [if_pos c41] at H
             have c41b0 : (t556 == t550) = true := beq_iff_eq.mpr c41
             have c41b1 : (t556 != t550) = false := bne_eq_false_iff_eq.mpr c41
             clear c41
             by_cases c42 : t553 < t541
             ·rw [if_pos c42] at H
              have c42b0 : decide (t553 < t541) = true := decide_eq_true c42
              clear c42
              exact absurd (Option.some.inj H) (by rw [hrT.out]; decide)
             ·rw [if_neg c42] at H
              have c42b0 : decide (t553 < t541) = false := decide_eq_false c42
              clear c42
              by_cases c43 : t553 > t542
              ·rw [if_pos c43] at H
               have c43b0 : decide (t542 < t553) = true := decide_eq_true c43
               clear c43
               exact absurd (Option.some.inj H) (by rw [hrT.out]; decide)
              ·rw [if_neg c43] at H
               have c43b0 : decide (t542 < t553) = false := decide_eq_false c43
               clear c43
               by_cases c44 : t553 ≤ t555
               ·rw [if_pos c44] at H
                have c44b0 : decide (t553 ≤ t555) = true := decide_eq_true c44
                clear c44
                by_cases c45 : t553 ≥ t556
                ·rw [if_pos c45] at H
                 have c45b0 : decide (t556 ≤ t553) = true := decide_eq_true c45
                 clear c45
                 obtain rfl := Option.some.inj H
                 obtain ⟨hcz46_0, hcz46_1, hcz46_2, hcz46_3, hcz46_4, hcz46_5, hcz46_6, hcz46_7, hfz46_0, hfz46_1, hfz46_2, hfz46_3, hfz46_4, hfz46_5, hfz46_6, hfz46_7⟩ := bc8_ BK552.out
                 go_wp2
                 go_ret
                 exact ⟨ew_, hb_⟩
                ·rw [if_neg c45] at H
                 have c45b0 : decide (t556 ≤ t553) = false := decide_eq_false c45
                 clear c45
                 obtain rfl := Option.some.inj H
                 obtain ⟨hcz47_0, hcz47_1, hcz47_2, hcz47_3, hcz47_4, hcz47_5, hcz47_6, hcz47_7, hfz47_0, hfz47_1, hfz47_2, hfz47_3, hfz47_4, hfz47_5, hfz47_6, hfz47_7⟩ := bc8_ BK552.out
                 go_wp2
                 go_ret
                 exact ⟨ew_, hb_⟩
               ·rw [if_neg c44] at H
                have c44b0 : decide (t553 ≤ t555) = false := decide_eq_false c44
                clear c44
                by_cases c48 : t553 = t541
                ·rw [if_pos c48] at H
                 have c48b0 : (t553 == t541) = true := beq_iff_eq.mpr c48
                 have c48b1 : (t553 != t541) = false := bne_eq_false_iff_eq.mpr c48
                 clear c48
                 by_cases c49 : t553 ≥ t556
                 ·rw [if_pos c49] at H
                  have c49b0 : decide (t556 ≤ t553) = true := decide_eq_true c49
                  clear c49
                  obtain rfl := Option.some.inj H
                  obtain ⟨hcz50_0, hcz50_1, hcz50_2, hcz50_3, hcz50_4, hcz50_5, hcz50_6, hcz50_7, hfz50_0, hfz50_1, hfz50_2, hfz50_3, hfz50_4, hfz50_5, hfz50_6, hfz50_7⟩ := bc8_ BK552.out
                  go_wp2
                  go_ret
                  exact ⟨ew_, hb_⟩
                 ·rw [if_neg c49] at H
                  have c49b0 : decide (t556 ≤ t553) = false := decide_eq_false c49
                  clear c49
                  obtain rfl := Option.some.inj H
                  obtain ⟨hcz51_0, hcz51_1, hcz51_2, hcz51_3, hcz51_4, hcz51_5, hcz51_6, hcz51_7, hfz51_0, hfz51_1, hfz51_2, hfz51_3, hfz51_4, hfz51_5, hfz51_6, hfz51_7⟩ := bc8_ BK552.out
                  go_wp2
                  go_ret
                  exact ⟨ew_, hb_⟩
                ·rw [if_neg c48] at H
                 have c48b0 : (t553 == t541) = false := beq_eq_false_iff_ne.mpr c48
                 have c48b1 : (t553 != t541) = true := bne_iff_ne.mpr c48
                 exact absurd (Option.some.inj H) (by rw [hrT.out]; decide)
            ·rw [if_neg c41] at H
             have c41b0 : (t556 == t550) = false := beq_eq_false_iff_ne.mpr c41
             have c41b1 : (t556 != t550) = true := bne_iff_ne.mpr c41
             exact absurd (Option.some.inj H) (by rw [hrT.out]; decide)
           ·rw [if_neg c40] at H
            have c40b0 : (t539 == 2) = false := beq_eq_false_iff_ne.mpr c40
            have c40b1 : (t539 != 2) = true := bne_iff_ne.mpr c40
            by_cases c52 : t553 < t541
            ·rw [if_pos c52] at H
             have c52b0 : decide (t553 < t541) = true := decide_eq_true c52
             clear c52
             exact absurd (Option.some.inj H) (by rw [hrT.out]; decide)
            ·rw [if_neg c52] at H
             have c52b0 : decide (t553 < t541) = false := decide_eq_false c52
             clear c52
             by_cases c53 : t553 > t542
             ·rw [if_pos c53] at H
              have c53b0 : decide (t542 < t553) = true := decide_eq_true c53
              clear c53
              exact absurd (Option.some.inj H) (by rw [hrT.out]; decide)
             ·rw [if_neg c53] at H
              have c53b0 : decide (t542 < t553) = false := decide_eq_false c53
              clear c53
              by_cases c54 : t553 ≤ t555
              ·rw [if_pos c54] at H
               have c54b0 : decide (t553 ≤ t555) = true := decide_eq_true c54
               clear c54
               by_cases c55 : t553 ≥ t556
               ·rw [if_pos c55] at H
                have c55b0 : decide (t556 ≤ t553) = true := decide_eq_true c55
                clear c55
                obtain rfl := Option.some.inj H
                obtain ⟨hcz56_0, hcz56_1, hcz56_2, hcz56_3, hcz56_4, hcz56_5, hcz56_6, hcz56_7, hfz56_0, hfz56_1, hfz56_2, hfz56_3, hfz56_4, hfz56_5, hfz56_6, hfz56_7⟩ := bc8_ BK552.out
                go_wp2
                go_ret
                exact ⟨ew_, hb_⟩
               ·rw [if_neg c55] at H
                have c55b0 : decide (t556 ≤ t553) = false := decide_eq_false c55
                clear c55
                obtain rfl := Option.some.inj H
                obtain ⟨hcz57_0, hcz57_1, hcz57_2, hcz57_3, hcz57_4, hcz57_5, hcz57_6, hcz57_7, hfz57_0, hfz57_1, hfz57_2, hfz57_3, hfz57_4, hfz57_5, hfz57_6, hfz57_7⟩ := bc8_ BK552.out
                go_wp2
                go_ret
                exact ⟨ew_, hb_⟩
              ·rw [if_neg c54] at H
               have c54b0 : decide (t553 ≤ t555) = false := decide_eq_false c54
               clear c54
               by_cases c58 : t553 = t541
               ·rw [if_pos c58] at H
                have c58b0 : (t553 == t541) = true := beq_iff_eq.mpr c58
                have c58b1 : (t553 != t541) = false := bne_eq_false_iff_eq.mpr c58
                clear c58
                by_cases c59 : t553 ≥ t556
                ·rw [if_pos c59] at H
                 have c59b0 : decide (t556 ≤ t553) = true := decide_eq_true c59
                 clear c59
                 obtain rfl := Option.some.inj H
                 obtain ⟨hcz60_0, hcz60_1, hcz60_2, hcz60_3, hcz60_4, hcz60_5, hcz60_6, hcz60_7, hfz60_0, hfz60_1, hfz60_2, hfz60_3, hfz60_4, hfz60_5, hfz60_6, hfz60_7⟩ := bc8_ BK552.out
                 go_wp2
                 go_ret
                 exact ⟨ew_, hb_⟩
                ·rw [if_neg c59] at H
                 have c59b0 : decide (t556 ≤ t553) = false := decide_eq_false c59
                 clear c59
                 obtain rfl := Option.some.inj H
                 obtain ⟨hcz61_0, hcz61_1, hcz61_2, hcz61_3, hcz61_4, hcz61_5, hcz61_6, hcz61_7, hfz61_0, hfz61_1, hfz61_2, hfz61_3, hfz61_4, hfz61_5, hfz61_6, hfz61_7⟩ := bc8_ BK552.out
                 go_wp2
                 go_ret
                 exact ⟨ew_, hb_⟩
               ·rw [if_neg c58] at H
                have c58b0 : (t553 == t541) = false := beq_eq_false_iff_ne.mpr c58
                have c58b1 : (t553 != t541) = true := bne_iff_ne.mpr c58
                exact absurd (Option.some.inj H) (by rw [hrT.out]; decide)
          ·rw [if_neg c39] at H
           have c39b0 : (t555 == t550) = false := beq_eq_false_iff_ne.mpr c39
           have c39b1 : (t555 != t550) = true := bne_iff_ne.mpr c39
           exact absurd (Option.some.inj H) (by rw [hrT.out]; decide)
         ·rw [if_neg c38] at H
          have c38b0 : (t534 == 2) = false := beq_eq_false_iff_ne.mpr c38
          have c38b1 : (t534 != 2) = true := bne_iff_ne.mpr c38
          by_cases c62 : t539 = 2
          ·rw [if_pos c62] at H
           have c62b0 : (t539 == 2) = true := beq_iff_eq.mpr c62
           have c62b1 : (t539 != 2) = false := bne_eq_false_iff_eq.mpr c62
           clear c62
           by_cases c63 : t556 = t550
           ·rw [if_pos c63] at H
            have c63b0 : (t556 == t550) = true := beq_iff_eq.mpr c63
            have c63b1 : (t556 != t550) = false := bne_eq_false_iff_eq.mpr c63
            clear c63
            by_cases c64 : t553 < t541
            ·rw [if_pos c64] at H
             have c64b0 : decide (t553 < t541) = true := decide_eq_true c64
             clear c64
             exact absurd (Option.some.inj H) (by rw [hrT.out]; decide)
            ·rw [if_neg c64] at H
             have c64b0 : decide (t553 < t541) = false := decide_eq_false c64
             clear c64
             by_cases c65 : t553 > t542
             ·rw [if_pos c65] at H
              have c65b0 : decide (t542 < t553) = true := decide_eq_true c65
              clear c65
              exact absurd (Option.some.inj H) (by rw [hrT.out]; decide)
             ·rw [if_neg c65] at H
              have c65b0 : decide (t542 < t553) = false := decide_eq_false c65
              clear c65
              by_cases c66 : t553 ≤ t555
              ·rw [if_pos c66] at H
               have c66b0 : decide (t553 ≤ t555) = true := decide_eq_true c66
               clear c66
               by_cases c67 : t553 ≥ t556
               ·rw [if_pos c67] at H
                have c67b0 : decide (t556 ≤ t553) = true := decide_eq_true c67
                clear c67
                obtain rfl := Option.some.inj H
                obtain ⟨hcz68_0, hcz68_1, hcz68_2, hcz68_3, hcz68_4, hcz68_5, hcz68_6, hcz68_7, hfz68_0, hfz68_1, hfz68_2, hfz68_3, hfz68_4, hfz68_5, hfz68_6, hfz68_7⟩ := bc8_ BK552.out
                go_wp2
                go_ret
                exact ⟨ew_, hb_⟩
               ·rw [if_neg c67] at H
                have c67b0 : decide (t556 ≤ t553) = false := decide_eq_false c67
                clear c67
                obtain rfl := Option.some.inj H
                obtain ⟨hcz69_0, hcz69_1, hcz69_2, hcz69_3, hcz69_4, hcz69_5, hcz69_6, hcz69_7, hfz69_0, hfz69_1, hfz69_2, hfz69_3, hfz69_4, hfz69_5, hfz69_6, hfz69_7⟩ := bc8_ BK552.out
                go_wp2
                go_ret
                exact ⟨ew_, hb_⟩
              ·rw [if_neg c66] at H
               have c66b0 : decide (t553 ≤ t555) = false := decide_eq_false c66
               clear c66
               by_cases c70 : t553 = t541
               ·rw [if_pos c70] at H
                have c70b0 : (t553 == t541) = true := beq_iff_eq.mpr c70
                have c70b1 : (t553 != t541) = false := bne_eq_false_iff_eq.mpr c70
                clear c70
                by_cases c71 : t553 ≥ t556
                ·rw [if_pos c71] at H
                 have c71b0 : decide (t556 ≤ t553) = true := decide_eq_true c71
                 clear c71
                 obtain rfl := Option.some.inj H
                 obtain ⟨hcz72_0, hcz72_1, hcz72_2, hcz72_3, hcz72_4, hcz72_5, hcz72_6, hcz72_7, hfz72_0, hfz72_1, hfz72_2, hfz72_3, hfz72_4, hfz72_5, hfz72_6, hfz72_7⟩ := bc8_ BK552.out
                 go_wp2
                 go_ret
                 exact ⟨ew_, hb_⟩
                ·rw [if_neg c71] at H
                 have c71b0 : decide (t556 ≤ t553) = false := decide_eq_false c71
                 clear c71
                 obtain rfl := Option.some.inj H
                 obtain ⟨hcz73_0, hcz73_1, hcz73_2, hcz73_3, hcz73_4, hcz73_5, hcz73_6, hcz73_7, hfz73_0, hfz73_1, hfz73_2, hfz73_3, hfz73_4, hfz73_5, hfz73_6, hfz73_7⟩ := bc8_ BK552.out
                 go_wp2
                 go_ret
                 exact ⟨ew_, hb_⟩
               ·rw [if_neg c70] at H
                have c70b0 : (t553 == t541) = false := beq_eq_false_iff_ne.mpr c70
                have c70b1 : (t553 != t541) = true := bne_iff_ne.mpr c70
                exact absurd (Option.some.inj H) (by rw [hrT.out]; decide)
           ·rw [if_neg c63] at H
            have c63b0 : (t556 == t550) = false := beq_eq_false_iff_ne.mpr c63
            have c63b1 : (t556 != t550) = true := bne_iff_ne.mpr c63
            exact absurd (Option.some.inj H) (by rw [hrT.out]; decide)
          ·rw [if_neg c62] at H
           have c62b0 : (t539 == 2) = false := beq_eq_false_iff_ne.mpr c62
           have c62b1 : (t539 != 2) = true := bne_iff_ne.mpr c62
           by_cases c74 : t553 < t541
           ·rw [if_pos c74] at H
            have c74b0 : decide (t553 < t541) = true := decide_eq_true c74
            clear c74
            exact absurd (Option.some.inj H) (by rw [hrT.out]; decide)
           ·rw [if_neg c74] at H
            have c74b0 : decide (t553 < t541) = false := decide_eq_false c74
            clear c74
            by_cases c75 : t553 > t542
            ·rw [if_pos c75] at H
             have c75b0 : decide (t542 < t553) = true := decide_eq_true c75
             clear c75
             exact absurd (Option.some.inj H) (by rw [hrT.out]; decide)
            ·rw [if_neg c75] at H
             have c75b0 : decide (t542 < t553) = false := decide_eq_false c75
             clear c75
             by_cases c76 : t553 ≤ t555
             ·rw [if_pos c76] at H
              have c76b0 : decide (t553 ≤ t555) = true := decide_eq_true c76
              clear c76
              by_cases c77 : t553 ≥ t556
              ·rw [if_pos c77] at H
               have c77b0 : decide (t556 ≤ t553) = true := decide_eq_true c77
               clear c77
               obtain rfl := Option.some.inj H
               obtain ⟨hcz78_0, hcz78_1, hcz78_2, hcz78_3, hcz78_4, hcz78_5, hcz78_6, hcz78_7, hfz78_0, hfz78_1, hfz78_2, hfz78_3, hfz78_4, hfz78_5, hfz78_6, hfz78_7⟩ := bc8_ BK552.out
               go_wp2
               go_ret
               exact ⟨ew_, hb_⟩
              ·rw [if_neg c77] at H
               have c77b0 : decide (t556 ≤ t553) = false := decide_eq_false c77
               clear c77
               obtain rfl := Option.some.inj H
               obtain ⟨hcz79_0, hcz79_1, hcz79_2, hcz79_3, hcz79_4, hcz79_5, hcz79_6, hcz79_7, hfz79_0, hfz79_1, hfz79_2, hfz79_3, hfz79_4, hfz79_5, hfz79_6, hfz79_7⟩ := bc8_ BK552.out
               go_wp2
               go_ret
               exact ⟨ew_, hb_⟩
             ·rw [if_neg c76] at H
              have c76b0 : decide (t553 ≤ t555) = false := decide_eq_false c76
              clear c76
              by_cases c80 : t553 = t541
              ·rw [if_pos c80] at H
               have c80b0 : (t553 == t541) = true := beq_iff_eq.mpr c80
               have c80b1 : (t553 != t541) = false := bne_eq_false_iff_eq.mpr c80
               clear c80
               by_cases c81 : t553 ≥ t556
               ·rw [if_pos c81] at H
                have c81b0 : decide (t556 ≤ t553) = true := decide_eq_true c81
                clear c81
                obtain rfl := Option.some.inj H
                obtain ⟨hcz82_0, hcz82_1, hcz82_2, hcz82_3, hcz82_4, hcz82_5, hcz82_6, hcz82_7, hfz82_0, hfz82_1, hfz82_2, hfz82_3, hfz82_4, hfz82_5, hfz82_6, hfz82_7⟩ := bc8_ BK552.out
                go_wp2
                go_ret
                exact ⟨ew_, hb_⟩
               ·rw [if_neg c81] at H
                have c81b0 : decide (t556 ≤ t553) = false := decide_eq_false c81
                clear c81
                obtain rfl := Option.some.inj H
                obtain ⟨hcz83_0, hcz83_1, hcz83_2, hcz83_3, hcz83_4, hcz83_5, hcz83_6, hcz83_7, hfz83_0, hfz83_1, hfz83_2, hfz83_3, hfz83_4, hfz83_5, hfz83_6, hfz83_7⟩ := bc8_ BK552.out
                go_wp2
                go_ret
                exact ⟨ew_, hb_⟩
              ·rw [if_neg c80] at H
               have c80b0 : (t553 == t541) = false := beq_eq_false_iff_ne.mpr c80
               have c80b1 : (t553 != t541) = true := bne_iff_ne.mpr c80
               exact absurd (Option.some.inj H) (by rw [hrT.out]; decide)
  ·rw [if_neg c7] at H
   have c7b0 : (t553 == t554) = false := beq_eq_false_iff_ne.mpr c7
   have c7b1 : (t553 != t554) = true := bne_iff_ne.mpr c7
   exact absurd (Option.some.inj H) (by rw [hrT.out]; decide)

/-- THE ONE PURE STATEMENT of laws_FnBounds: yours. -/
def laws_FnBounds.Pure : Prop := ∀ (l0 : List Int), l0.length ≤ maxLen → l0.length * 1 ≤ 140737488351232 → (∀ x ∈ l0, (Lit.int .u8 x).wf = true) → ∃ k, laws_FnBounds.f k l0 = some true
theorem laws_FnBounds.walk (P : laws_FnBounds.Pure) (a0 : Option Addr) (len0 cap0 : Nat) (z0 : List Int) (w : World) (w0 : (a0 = none ∧ len0 = 0 ∧ cap0 = 0 ∧ z0 = []) ∨ ∃ x, a0 = some x ∧ len0 ≤ cap0 ∧ cap0 ≤ maxLen ∧ z0.length = cap0 ∧ (∀ i, i < z0.length → w.cell? (x.add i) = some (.int .u8 (z0.getD i 0))) ∧ ∀ n ∈ z0, (Lit.int .u8 n).wf = true) (y0 : len0 * 1 ≤ 140737488351232) :
  Calls Try.prog 4 #[.slice a0 len0 cap0] w fun e w' => e = .returned (.bool true) ∧ Below w.heap.size w w' := by
 obtain ⟨l0, rfl, hr0, hm0, hw0, hc0⟩ := ReadsInt.ofRowC w0
 obtain ⟨k, h⟩ := P l0 hm0 y0 hw0
 refine (laws_FnBounds.calls k _ _ l0 true ⟨rfl⟩ w (Kd.C_of_reads (d := (0 : Int)) (h1 := fun _ => rfl) hr0) hc0 h).mono ?_
 rintro e w' ⟨rfl, hd⟩
 exact ⟨rfl, hd⟩

end Go.Proofs.Ytfjjlipfjddaiaa.Bo
