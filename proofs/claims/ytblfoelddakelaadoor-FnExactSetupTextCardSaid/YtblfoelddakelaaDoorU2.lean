-- PRINTED by print.py (a twelfth state) out of the translation. Not trusted: Lean checks it.
import Derived.Test.YtblfoelddakelaaDoorU0
import Derived.Test.YtblfoelddakelaaDoorU1
namespace Go.Proofs.YtblfoelddakelaaDoor.U
open Go.RowKit Go.Proofs.YtblfoelddakelaaDoorW.PrintWords Go.Proofs.YtblfoelddakelaaDoorW.PrintLast Go.Proofs.YtblfoelddakelaaDoorW.PrintMore
attribute [local go_sem] max2_int min2_int max_two min_two max_three min_three max_four min_four   -- for this text's walks alone
set_option linter.unusedVariables false
set_option linter.unusedSimpArgs false

/-! ### spec_EventText: function 7 -/
def spec_EventText.f (k : Nat) (a0_0 : Int) (a0_1 : Int) (a0_2 : Int) (a0_3 : Int) : Option (ByteArray) := (spec_l01Num.f k a0_1).bind fun t108 => (if t108.size + 2 ≤ 9223372036854775807 then ((spec_l01Num.f k a0_2).bind fun t109 => (if 1 + t109.size ≤ 9223372036854775807 then (if ((⟨#[32]⟩ : ByteArray) ++ t109).size + 4 ≤ 9223372036854775807 then ((spec_l01Num.f k a0_3).bind fun t110 => (if (((⟨#[32]⟩ : ByteArray) ++ t109) ++ (⟨#[32, 116, 111, 32]⟩ : ByteArray)).size + t110.size ≤ 9223372036854775807 then (if a0_0 = 0 then (if (t108 ++ (⟨#[58, 32]⟩ : ByteArray)).size + 8 ≤ 9223372036854775807 then ((spec_l01Num.f k a0_2).bind fun t111 => (if ((t108 ++ (⟨#[58, 32]⟩ : ByteArray)) ++ (⟨#[115, 99, 114, 97, 112, 101, 100, 32]⟩ : ByteArray)).size + t111.size ≤ 9223372036854775807 then (if (((t108 ++ (⟨#[58, 32]⟩ : ByteArray)) ++ (⟨#[115, 99, 114, 97, 112, 101, 100, 32]⟩ : ByteArray)) ++ t111).size + 5 ≤ 9223372036854775807 then ((spec_l01Num.f k a0_3).bind fun t112 => (if ((((t108 ++ (⟨#[58, 32]⟩ : ByteArray)) ++ (⟨#[115, 99, 114, 97, 112, 101, 100, 32]⟩ : ByteArray)) ++ t111) ++ (⟨#[32, 98, 97, 100, 32]⟩ : ByteArray)).size + t112.size ≤ 9223372036854775807 then (some (((((t108 ++ (⟨#[58, 32]⟩ : ByteArray)) ++ (⟨#[115, 99, 114, 97, 112, 101, 100, 32]⟩ : ByteArray)) ++ t111) ++ (⟨#[32, 98, 97, 100, 32]⟩ : ByteArray)) ++ t112)) else (none))) else (none)) else (none))) else (none)) else (if a0_0 = 1 then (if (t108 ++ (⟨#[58, 32]⟩ : ByteArray)).size + 5 ≤ 9223372036854775807 then (if ((t108 ++ (⟨#[58, 32]⟩ : ByteArray)) ++ (⟨#[109, 111, 118, 101, 100]⟩ : ByteArray)).size + ((((⟨#[32]⟩ : ByteArray) ++ t109) ++ (⟨#[32, 116, 111, 32]⟩ : ByteArray)) ++ t110).size ≤ 9223372036854775807 then (some (((t108 ++ (⟨#[58, 32]⟩ : ByteArray)) ++ (⟨#[109, 111, 118, 101, 100]⟩ : ByteArray)) ++ ((((⟨#[32]⟩ : ByteArray) ++ t109) ++ (⟨#[32, 116, 111, 32]⟩ : ByteArray)) ++ t110))) else (none)) else (none)) else (if a0_0 = 2 then (if (t108 ++ (⟨#[58, 32]⟩ : ByteArray)).size + 6 ≤ 9223372036854775807 then (if ((t108 ++ (⟨#[58, 32]⟩ : ByteArray)) ++ (⟨#[102, 97, 105, 108, 101, 100]⟩ : ByteArray)).size + ((((⟨#[32]⟩ : ByteArray) ++ t109) ++ (⟨#[32, 116, 111, 32]⟩ : ByteArray)) ++ t110).size ≤ 9223372036854775807 then (some (((t108 ++ (⟨#[58, 32]⟩ : ByteArray)) ++ (⟨#[102, 97, 105, 108, 101, 100]⟩ : ByteArray)) ++ ((((⟨#[32]⟩ : ByteArray) ++ t109) ++ (⟨#[32, 116, 111, 32]⟩ : ByteArray)) ++ t110))) else (none)) else (none)) else (if a0_0 = 3 then (if (t108 ++ (⟨#[58, 32]⟩ : ByteArray)).size + 7 ≤ 9223372036854775807 then (some ((t108 ++ (⟨#[58, 32]⟩ : ByteArray)) ++ (⟨#[114, 101, 115, 116, 97, 114, 116]⟩ : ByteArray))) else (none)) else (if a0_0 = 4 then (if (t108 ++ (⟨#[58, 32]⟩ : ByteArray)).size + 5 ≤ 9223372036854775807 then (if ((t108 ++ (⟨#[58, 32]⟩ : ByteArray)) ++ (⟨#[104, 97, 110, 100, 115]⟩ : ByteArray)).size + ((((⟨#[32]⟩ : ByteArray) ++ t109) ++ (⟨#[32, 116, 111, 32]⟩ : ByteArray)) ++ t110).size ≤ 9223372036854775807 then (some (((t108 ++ (⟨#[58, 32]⟩ : ByteArray)) ++ (⟨#[104, 97, 110, 100, 115]⟩ : ByteArray)) ++ ((((⟨#[32]⟩ : ByteArray) ++ t109) ++ (⟨#[32, 116, 111, 32]⟩ : ByteArray)) ++ t110))) else (none)) else (none)) else (some (⟨#[]⟩ : ByteArray))))))) else (none))) else (none)) else (none))) else (none))
theorem spec_EventText.mono : ∀ a0 a1 a2 a3 k, LeO (spec_EventText.f k a0 a1 a2 a3) (spec_EventText.f (k + 1) a0 a1 a2 a3) := by
  intro a0 a1 a2 a3 k
  unfold spec_EventText.f
  repeat' with_reducible first | exact spec_l01Num.mono _ _ | exact LeO.refl _ | exact LeO.none _ | refine LeO.ite ?_ ?_ | refine LeO.bind ?_ (fun _ => ?_)
def spec_EventText.T2 : Bool × List (List Nat × List Nat) := (true, [([], []), ([0], [0]), ([1], [1]), ([2], [2]), ([3], [3]), ([], []), ([5], [5]), ([6, 2], [6]), ([4, 7], [4, 7]), ([8, 7, 0, 1, 2, 3, 4, 5, 6, 7, 8], [8])])
def spec_EventText.B2 : List Nat := [0, 1, 3, 7, 15, 0, 32, 103, 255, 511]
theorem spec_EventText.tab2 : rtab .any (opsOf Tryd.f7 2) = spec_EventText.T2 := by kernel_rfl
theorem spec_EventText.bits2 : waitsOk spec_EventText.T2.2 spec_EventText.B2 = true := by kernel_rfl
def spec_EventText.T5 : Bool × List (List Nat × List Nat) := (true, [([], []), ([0], [0]), ([], []), ([2], [2]), ([3], [3]), ([1, 4], [1, 4]), ([5], [5]), ([], []), ([7], [7]), ([8, 4], [8]), ([6, 9], [6, 9]), ([10, 9, 0, 1, 2, 3, 4, 5, 6, 7, 8, 9, 10], [10])])
def spec_EventText.B5 : List Nat := [0, 1, 0, 4, 12, 31, 63, 0, 128, 412, 1023, 2047]
theorem spec_EventText.tab5 : rtab .any (opsOf Tryd.f7 5) = spec_EventText.T5 := by kernel_rfl
theorem spec_EventText.bits5 : waitsOk spec_EventText.T5.2 spec_EventText.B5 = true := by kernel_rfl
abbrev spec_EventText.d0 : Array Bool := #[false, false, false, false, false, false, false, false, false, false]
abbrev spec_EventText.d1 : Array Bool := #[true, false, false, false, false, false, false, false, false, false]
abbrev spec_EventText.d2 : Array Bool := #[true, false, false, false, false, true, false, false, false, false]
abbrev spec_EventText.d3 : Array Bool := #[true, true, false, false, false, true, false, false, false, false]
abbrev spec_EventText.d4 : Array Bool := #[true, true, false, false, false, true, true, false, false, false]
abbrev spec_EventText.d5 : Array Bool := #[true, true, true, false, false, true, true, false, false, false]
abbrev spec_EventText.d6 : Array Bool := #[true, true, true, true, false, true, true, false, false, false]
abbrev spec_EventText.d7 : Array Bool := #[true, true, true, true, true, true, true, false, false, false]
abbrev spec_EventText.d8 : Array Bool := #[true, true, true, true, true, true, true, true, false, false]
abbrev spec_EventText.d9 : Array Bool := #[true, true, true, true, true, true, true, true, true, false]
abbrev spec_EventText.d10 : Array Bool := #[true, true, true, true, true, true, true, true, true, true]
set_option maxHeartbeats 8000000 in
set_option maxRecDepth 100000 in
theorem spec_EventText.calls (k : Nat) (a0_0 : Int) (a0_1 : Int) (a0_2 : Int) (a0_3 : Int) (r : ByteArray) (w : World) (h : spec_EventText.f k a0_0 a0_1 a0_2 a0_3 = some r) :
  Calls Tryd.prog 7 #[.agg #[.int .i64 a0_0, .int .i64 a0_1, .int .i64 a0_2, .int .i64 a0_3]] w fun e w' => e = .returned (.string r) ∧ Below w.heap.size w w' := by
 have hu25 := Tryd.underlying25
 have HB := Aside0.mk (Below.refl w.heap.size w)
 have H : ((spec_l01Num.f k a0_1).bind fun t108 => (if t108.size + 2 ≤ 9223372036854775807 then ((spec_l01Num.f k a0_2).bind fun t109 => (if 1 + t109.size ≤ 9223372036854775807 then (if ((⟨#[32]⟩ : ByteArray) ++ t109).size + 4 ≤ 9223372036854775807 then ((spec_l01Num.f k a0_3).bind fun t110 => (if (((⟨#[32]⟩ : ByteArray) ++ t109) ++ (⟨#[32, 116, 111, 32]⟩ : ByteArray)).size + t110.size ≤ 9223372036854775807 then (if a0_0 = 0 then (if (t108 ++ (⟨#[58, 32]⟩ : ByteArray)).size + 8 ≤ 9223372036854775807 then ((spec_l01Num.f k a0_2).bind fun t111 => (if ((t108 ++ (⟨#[58, 32]⟩ : ByteArray)) ++ (⟨#[115, 99, 114, 97, 112, 101, 100, 32]⟩ : ByteArray)).size + t111.size ≤ 9223372036854775807 then (if (((t108 ++ (⟨#[58, 32]⟩ : ByteArray)) ++ (⟨#[115, 99, 114, 97, 112, 101, 100, 32]⟩ : ByteArray)) ++ t111).size + 5 ≤ 9223372036854775807 then ((spec_l01Num.f k a0_3).bind fun t112 => (if ((((t108 ++ (⟨#[58, 32]⟩ : ByteArray)) ++ (⟨#[115, 99, 114, 97, 112, 101, 100, 32]⟩ : ByteArray)) ++ t111) ++ (⟨#[32, 98, 97, 100, 32]⟩ : ByteArray)).size + t112.size ≤ 9223372036854775807 then (some (((((t108 ++ (⟨#[58, 32]⟩ : ByteArray)) ++ (⟨#[115, 99, 114, 97, 112, 101, 100, 32]⟩ : ByteArray)) ++ t111) ++ (⟨#[32, 98, 97, 100, 32]⟩ : ByteArray)) ++ t112)) else (none))) else (none)) else (none))) else (none)) else (if a0_0 = 1 then (if (t108 ++ (⟨#[58, 32]⟩ : ByteArray)).size + 5 ≤ 9223372036854775807 then (if ((t108 ++ (⟨#[58, 32]⟩ : ByteArray)) ++ (⟨#[109, 111, 118, 101, 100]⟩ : ByteArray)).size + ((((⟨#[32]⟩ : ByteArray) ++ t109) ++ (⟨#[32, 116, 111, 32]⟩ : ByteArray)) ++ t110).size ≤ 9223372036854775807 then (some (((t108 ++ (⟨#[58, 32]⟩ : ByteArray)) ++ (⟨#[109, 111, 118, 101, 100]⟩ : ByteArray)) ++ ((((⟨#[32]⟩ : ByteArray) ++ t109) ++ (⟨#[32, 116, 111, 32]⟩ : ByteArray)) ++ t110))) else (none)) else (none)) else (if a0_0 = 2 then (if (t108 ++ (⟨#[58, 32]⟩ : ByteArray)).size + 6 ≤ 9223372036854775807 then (if ((t108 ++ (⟨#[58, 32]⟩ : ByteArray)) ++ (⟨#[102, 97, 105, 108, 101, 100]⟩ : ByteArray)).size + ((((⟨#[32]⟩ : ByteArray) ++ t109) ++ (⟨#[32, 116, 111, 32]⟩ : ByteArray)) ++ t110).size ≤ 9223372036854775807 then (some (((t108 ++ (⟨#[58, 32]⟩ : ByteArray)) ++ (⟨#[102, 97, 105, 108, 101, 100]⟩ : ByteArray)) ++ ((((⟨#[32]⟩ : ByteArray) ++ t109) ++ (⟨#[32, 116, 111, 32]⟩ : ByteArray)) ++ t110))) else (none)) else (none)) else (if a0_0 = 3 then (if (t108 ++ (⟨#[58, 32]⟩ : ByteArray)).size + 7 ≤ 9223372036854775807 then (some ((t108 ++ (⟨#[58, 32]⟩ : ByteArray)) ++ (⟨#[114, 101, 115, 116, 97, 114, 116]⟩ : ByteArray))) else (none)) else (if a0_0 = 4 then (if (t108 ++ (⟨#[58, 32]⟩ : ByteArray)).size + 5 ≤ 9223372036854775807 then (if ((t108 ++ (⟨#[58, 32]⟩ : ByteArray)) ++ (⟨#[104, 97, 110, 100, 115]⟩ : ByteArray)).size + ((((⟨#[32]⟩ : ByteArray) ++ t109) ++ (⟨#[32, 116, 111, 32]⟩ : ByteArray)) ++ t110).size ≤ 9223372036854775807 then (some (((t108 ++ (⟨#[58, 32]⟩ : ByteArray)) ++ (⟨#[104, 97, 110, 100, 115]⟩ : ByteArray)) ++ ((((⟨#[32]⟩ : ByteArray) ++ t109) ++ (⟨#[32, 116, 111, 32]⟩ : ByteArray)) ++ t110))) else (none)) else (none)) else (some (⟨#[]⟩ : ByteArray))))))) else (none))) else (none)) else (none))) else (none))) = some r := h
 clear h
 replace H := Option.bind_eq_some_iff.mp H
 obtain ⟨t108, A20, H⟩ := H
 replace H : (if t108.size + 2 ≤ 9223372036854775807 then ((spec_l01Num.f k a0_2).bind fun t109 => (if 1 + t109.size ≤ 9223372036854775807 then (if ((⟨#[32]⟩ : ByteArray) ++ t109).size + 4 ≤ 9223372036854775807 then ((spec_l01Num.f k a0_3).bind fun t110 => (if (((⟨#[32]⟩ : ByteArray) ++ t109) ++ (⟨#[32, 116, 111, 32]⟩ : ByteArray)).size + t110.size ≤ 9223372036854775807 then (if a0_0 = 0 then (if (t108 ++ (⟨#[58, 32]⟩ : ByteArray)).size + 8 ≤ 9223372036854775807 then ((spec_l01Num.f k a0_2).bind fun t111 => (if ((t108 ++ (⟨#[58, 32]⟩ : ByteArray)) ++ (⟨#[115, 99, 114, 97, 112, 101, 100, 32]⟩ : ByteArray)).size + t111.size ≤ 9223372036854775807 then (if (((t108 ++ (⟨#[58, 32]⟩ : ByteArray)) ++ (⟨#[115, 99, 114, 97, 112, 101, 100, 32]⟩ : ByteArray)) ++ t111).size + 5 ≤ 9223372036854775807 then ((spec_l01Num.f k a0_3).bind fun t112 => (if ((((t108 ++ (⟨#[58, 32]⟩ : ByteArray)) ++ (⟨#[115, 99, 114, 97, 112, 101, 100, 32]⟩ : ByteArray)) ++ t111) ++ (⟨#[32, 98, 97, 100, 32]⟩ : ByteArray)).size + t112.size ≤ 9223372036854775807 then (some (((((t108 ++ (⟨#[58, 32]⟩ : ByteArray)) ++ (⟨#[115, 99, 114, 97, 112, 101, 100, 32]⟩ : ByteArray)) ++ t111) ++ (⟨#[32, 98, 97, 100, 32]⟩ : ByteArray)) ++ t112)) else (none))) else (none)) else (none))) else (none)) else (if a0_0 = 1 then (if (t108 ++ (⟨#[58, 32]⟩ : ByteArray)).size + 5 ≤ 9223372036854775807 then (if ((t108 ++ (⟨#[58, 32]⟩ : ByteArray)) ++ (⟨#[109, 111, 118, 101, 100]⟩ : ByteArray)).size + ((((⟨#[32]⟩ : ByteArray) ++ t109) ++ (⟨#[32, 116, 111, 32]⟩ : ByteArray)) ++ t110).size ≤ 9223372036854775807 then (some (((t108 ++ (⟨#[58, 32]⟩ : ByteArray)) ++ (⟨#[109, 111, 118, 101, 100]⟩ : ByteArray)) ++ ((((⟨#[32]⟩ : ByteArray) ++ t109) ++ (⟨#[32, 116, 111, 32]⟩ : ByteArray)) ++ t110))) else (none)) else (none)) else (if a0_0 = 2 then (if (t108 ++ (⟨#[58, 32]⟩ : ByteArray)).size + 6 ≤ 9223372036854775807 then (if ((t108 ++ (⟨#[58, 32]⟩ : ByteArray)) ++ (⟨#[102, 97, 105, 108, 101, 100]⟩ : ByteArray)).size + ((((⟨#[32]⟩ : ByteArray) ++ t109) ++ (⟨#[32, 116, 111, 32]⟩ : ByteArray)) ++ t110).size ≤ 9223372036854775807 then (some (((t108 ++ (⟨#[58, 32]⟩ : ByteArray)) ++ (⟨#[102, 97, 105, 108, 101, 100]⟩ : ByteArray)) ++ ((((⟨#[32]⟩ : ByteArray) ++ t109) ++ (⟨#[32, 116, 111, 32]⟩ : ByteArray)) ++ t110))) else (none)) else (none)) else (if a0_0 = 3 then (if (t108 ++ (⟨#[58, 32]⟩ : ByteArray)).size + 7 ≤ 9223372036854775807 then (some ((t108 ++ (⟨#[58, 32]⟩ : ByteArray)) ++ (⟨#[114, 101, 115, 116, 97, 114, 116]⟩ : ByteArray))) else (none)) else (if a0_0 = 4 then (if (t108 ++ (⟨#[58, 32]⟩ : ByteArray)).size + 5 ≤ 9223372036854775807 then (if ((t108 ++ (⟨#[58, 32]⟩ : ByteArray)) ++ (⟨#[104, 97, 110, 100, 115]⟩ : ByteArray)).size + ((((⟨#[32]⟩ : ByteArray) ++ t109) ++ (⟨#[32, 116, 111, 32]⟩ : ByteArray)) ++ t110).size ≤ 9223372036854775807 then (some (((t108 ++ (⟨#[58, 32]⟩ : ByteArray)) ++ (⟨#[104, 97, 110, 100, 115]⟩ : ByteArray)) ++ ((((⟨#[32]⟩ : ByteArray) ++ t109) ++ (⟨#[32, 116, 111, 32]⟩ : ByteArray)) ++ t110))) else (none)) else (none)) else (some (⟨#[]⟩ : ByteArray))))))) else (none))) else (none)) else (none))) else (none)) = some r := H
 have A2 := Aside0.mk A20
 clear A20
 by_cases c3 : t108.size + 2 ≤ 9223372036854775807
 ·rw [if_pos c3] at H
  have c3b0 := eq_true c3
  have c3b1 : decide (t108.size + 2 ≤ 9223372036854775807) = true := decide_eq_true c3
  try have c3b2 : (9223372036854775807 < t108.size + 2) = False := eq_false (Nat.not_lt.2 c3)
  replace H := Option.bind_eq_some_iff.mp H
  obtain ⟨t109, A40, H⟩ := H
  replace H : (if 1 + t109.size ≤ 9223372036854775807 then (if ((⟨#[32]⟩ : ByteArray) ++ t109).size + 4 ≤ 9223372036854775807 then ((spec_l01Num.f k a0_3).bind fun t110 => (if (((⟨#[32]⟩ : ByteArray) ++ t109) ++ (⟨#[32, 116, 111, 32]⟩ : ByteArray)).size + t110.size ≤ 9223372036854775807 then (if a0_0 = 0 then (if (t108 ++ (⟨#[58, 32]⟩ : ByteArray)).size + 8 ≤ 9223372036854775807 then ((spec_l01Num.f k a0_2).bind fun t111 => (if ((t108 ++ (⟨#[58, 32]⟩ : ByteArray)) ++ (⟨#[115, 99, 114, 97, 112, 101, 100, 32]⟩ : ByteArray)).size + t111.size ≤ 9223372036854775807 then (if (((t108 ++ (⟨#[58, 32]⟩ : ByteArray)) ++ (⟨#[115, 99, 114, 97, 112, 101, 100, 32]⟩ : ByteArray)) ++ t111).size + 5 ≤ 9223372036854775807 then ((spec_l01Num.f k a0_3).bind fun t112 => (if ((((t108 ++ (⟨#[58, 32]⟩ : ByteArray)) ++ (⟨#[115, 99, 114, 97, 112, 101, 100, 32]⟩ : ByteArray)) ++ t111) ++ (⟨#[32, 98, 97, 100, 32]⟩ : ByteArray)).size + t112.size ≤ 9223372036854775807 then (some (((((t108 ++ (⟨#[58, 32]⟩ : ByteArray)) ++ (⟨#[115, 99, 114, 97, 112, 101, 100, 32]⟩ : ByteArray)) ++ t111) ++ (⟨#[32, 98, 97, 100, 32]⟩ : ByteArray)) ++ t112)) else (none))) else (none)) else (none))) else (none)) else (if a0_0 = 1 then (if (t108 ++ (⟨#[58, 32]⟩ : ByteArray)).size + 5 ≤ 9223372036854775807 then (if ((t108 ++ (⟨#[58, 32]⟩ : ByteArray)) ++ (⟨#[109, 111, 118, 101, 100]⟩ : ByteArray)).size + ((((⟨#[32]⟩ : ByteArray) ++ t109) ++ (⟨#[32, 116, 111, 32]⟩ : ByteArray)) ++ t110).size ≤ 9223372036854775807 then (some (((t108 ++ (⟨#[58, 32]⟩ : ByteArray)) ++ (⟨#[109, 111, 118, 101, 100]⟩ : ByteArray)) ++ ((((⟨#[32]⟩ : ByteArray) ++ t109) ++ (⟨#[32, 116, 111, 32]⟩ : ByteArray)) ++ t110))) else (none)) else (none)) else (if a0_0 = 2 then (if (t108 ++ (⟨#[58, 32]⟩ : ByteArray)).size + 6 ≤ 9223372036854775807 then (if ((t108 ++ (⟨#[58, 32]⟩ : ByteArray)) ++ (⟨#[102, 97, 105, 108, 101, 100]⟩ : ByteArray)).size + ((((⟨#[32]⟩ : ByteArray) ++ t109) ++ (⟨#[32, 116, 111, 32]⟩ : ByteArray)) ++ t110).size ≤ 9223372036854775807 then (some (((t108 ++ (⟨#[58, 32]⟩ : ByteArray)) ++ (⟨#[102, 97, 105, 108, 101, 100]⟩ : ByteArray)) ++ ((((⟨#[32]⟩ : ByteArray) ++ t109) ++ (⟨#[32, 116, 111, 32]⟩ : ByteArray)) ++ t110))) else (none)) else (none)) else (if a0_0 = 3 then (if (t108 ++ (⟨#[58, 32]⟩ : ByteArray)).size + 7 ≤ 9223372036854775807 then (some ((t108 ++ (⟨#[58, 32]⟩ : ByteArray)) ++ (⟨#[114, 101, 115, 116, 97, 114, 116]⟩ : ByteArray))) else (none)) else (if a0_0 = 4 then (if (t108 ++ (⟨#[58, 32]⟩ : ByteArray)).size + 5 ≤ 9223372036854775807 then (if ((t108 ++ (⟨#[58, 32]⟩ : ByteArray)) ++ (⟨#[104, 97, 110, 100, 115]⟩ : ByteArray)).size + ((((⟨#[32]⟩ : ByteArray) ++ t109) ++ (⟨#[32, 116, 111, 32]⟩ : ByteArray)) ++ t110).size ≤ 9223372036854775807 then (some (((t108 ++ (⟨#[58, 32]⟩ : ByteArray)) ++ (⟨#[104, 97, 110, 100, 115]⟩ : ByteArray)) ++ ((((⟨#[32]⟩ : ByteArray) ++ t109) ++ (⟨#[32, 116, 111, 32]⟩ : ByteArray)) ++ t110))) else (none)) else (none)) else (some (⟨#[]⟩ : ByteArray))))))) else (none))) else (none)) else (none)) = some r := H
  have A4 := Aside0.mk A40
  clear A40
  by_cases c5 : 1 + t109.size ≤ 9223372036854775807
  ·rw [if_pos c5] at H
   have c5b0 := eq_true c5
   have c5b1 : decide (1 + t109.size ≤ 9223372036854775807) = true := decide_eq_true c5
   try have c5b2 : (9223372036854775807 < 1 + t109.size) = False := eq_false (Nat.not_lt.2 c5)
   by_cases c6 : ((⟨#[32]⟩ : ByteArray) ++ t109).size + 4 ≤ 9223372036854775807
   ·rw [if_pos c6] at H
    have c6n3 := c6
    try simp only [ByteArray.size_append, show (⟨#[32]⟩ : ByteArray).size = 1 from rfl] at c6n3
    try have c6n4 := eq_true c6n3
    try have c6n5 := decide_eq_true c6n3
    try have c6n6 := eq_false (Nat.not_lt.2 c6n3)
    have c6b0 := eq_true c6
    have c6b1 : decide (((⟨#[32]⟩ : ByteArray) ++ t109).size + 4 ≤ 9223372036854775807) = true := decide_eq_true c6
    try have c6b2 : (9223372036854775807 < ((⟨#[32]⟩ : ByteArray) ++ t109).size + 4) = False := eq_false (Nat.not_lt.2 c6)
    replace H := Option.bind_eq_some_iff.mp H
    obtain ⟨t110, A70, H⟩ := H
    replace H : (if (((⟨#[32]⟩ : ByteArray) ++ t109) ++ (⟨#[32, 116, 111, 32]⟩ : ByteArray)).size + t110.size ≤ 9223372036854775807 then (if a0_0 = 0 then (if (t108 ++ (⟨#[58, 32]⟩ : ByteArray)).size + 8 ≤ 9223372036854775807 then ((spec_l01Num.f k a0_2).bind fun t111 => (if ((t108 ++ (⟨#[58, 32]⟩ : ByteArray)) ++ (⟨#[115, 99, 114, 97, 112, 101, 100, 32]⟩ : ByteArray)).size + t111.size ≤ 9223372036854775807 then (if (((t108 ++ (⟨#[58, 32]⟩ : ByteArray)) ++ (⟨#[115, 99, 114, 97, 112, 101, 100, 32]⟩ : ByteArray)) ++ t111).size + 5 ≤ 9223372036854775807 then ((spec_l01Num.f k a0_3).bind fun t112 => (if ((((t108 ++ (⟨#[58, 32]⟩ : ByteArray)) ++ (⟨#[115, 99, 114, 97, 112, 101, 100, 32]⟩ : ByteArray)) ++ t111) ++ (⟨#[32, 98, 97, 100, 32]⟩ : ByteArray)).size + t112.size ≤ 9223372036854775807 then (some (((((t108 ++ (⟨#[58, 32]⟩ : ByteArray)) ++ (⟨#[115, 99, 114, 97, 112, 101, 100, 32]⟩ : ByteArray)) ++ t111) ++ (⟨#[32, 98, 97, 100, 32]⟩ : ByteArray)) ++ t112)) else (none))) else (none)) else (none))) else (none)) else (if a0_0 = 1 then (if (t108 ++ (⟨#[58, 32]⟩ : ByteArray)).size + 5 ≤ 9223372036854775807 then (if ((t108 ++ (⟨#[58, 32]⟩ : ByteArray)) ++ (⟨#[109, 111, 118, 101, 100]⟩ : ByteArray)).size + ((((⟨#[32]⟩ : ByteArray) ++ t109) ++ (⟨#[32, 116, 111, 32]⟩ : ByteArray)) ++ t110).size ≤ 9223372036854775807 then (some (((t108 ++ (⟨#[58, 32]⟩ : ByteArray)) ++ (⟨#[109, 111, 118, 101, 100]⟩ : ByteArray)) ++ ((((⟨#[32]⟩ : ByteArray) ++ t109) ++ (⟨#[32, 116, 111, 32]⟩ : ByteArray)) ++ t110))) else (none)) else (none)) else (if a0_0 = 2 then (if (t108 ++ (⟨#[58, 32]⟩ : ByteArray)).size + 6 ≤ 9223372036854775807 then (if ((t108 ++ (⟨#[58, 32]⟩ : ByteArray)) ++ (⟨#[102, 97, 105, 108, 101, 100]⟩ : ByteArray)).size + ((((⟨#[32]⟩ : ByteArray) ++ t109) ++ (⟨#[32, 116, 111, 32]⟩ : ByteArray)) ++ t110).size ≤ 9223372036854775807 then (some (((t108 ++ (⟨#[58, 32]⟩ : ByteArray)) ++ (⟨#[102, 97, 105, 108, 101, 100]⟩ : ByteArray)) ++ ((((⟨#[32]⟩ : ByteArray) ++ t109) ++ (⟨#[32, 116, 111, 32]⟩ : ByteArray)) ++ t110))) else (none)) else (none)) else (if a0_0 = 3 then (if (t108 ++ (⟨#[58, 32]⟩ : ByteArray)).size + 7 ≤ 9223372036854775807 then (some ((t108 ++ (⟨#[58, 32]⟩ : ByteArray)) ++ (⟨#[114, 101, 115, 116, 97, 114, 116]⟩ : ByteArray))) else (none)) else (if a0_0 = 4 then (if (t108 ++ (⟨#[58, 32]⟩ : ByteArray)).size + 5 ≤ 9223372036854775807 then (if ((t108 ++ (⟨#[58, 32]⟩ : ByteArray)) ++ (⟨#[104, 97, 110, 100, 115]⟩ : ByteArray)).size + ((((⟨#[32]⟩ : ByteArray) ++ t109) ++ (⟨#[32, 116, 111, 32]⟩ : ByteArray)) ++ t110).size ≤ 9223372036854775807 then (some (((t108 ++ (⟨#[58, 32]⟩ : ByteArray)) ++ (⟨#[104, 97, 110, 100, 115]⟩ : ByteArray)) ++ ((((⟨#[32]⟩ : ByteArray) ++ t109) ++ (⟨#[32, 116, 111, 32]⟩ : ByteArray)) ++ t110))) else (none)) else (none)) else (some (⟨#[]⟩ : ByteArray))))))) else (none)) = some r := H
    have A7 := Aside0.mk A70
    clear A70
    by_cases c8 : (((⟨#[32]⟩ : ByteArray) ++ t109) ++ (⟨#[32, 116, 111, 32]⟩ : ByteArray)).size + t110.size ≤ 9223372036854775807
    ·rw [if_pos c8] at H
     have c8n3 := c8
     try simp only [ByteArray.size_append, show (⟨#[32]⟩ : ByteArray).size = 1 from rfl, show (⟨#[32, 116, 111, 32]⟩ : ByteArray).size = 4 from rfl] at c8n3
     try have c8n4 := eq_true c8n3
     try have c8n5 := decide_eq_true c8n3
     try have c8n6 := eq_false (Nat.not_lt.2 c8n3)
     have c8b0 := eq_true c8
     have c8b1 : decide ((((⟨#[32]⟩ : ByteArray) ++ t109) ++ (⟨#[32, 116, 111, 32]⟩ : ByteArray)).size + t110.size ≤ 9223372036854775807) = true := decide_eq_true c8
     try have c8b2 : (9223372036854775807 < (((⟨#[32]⟩ : ByteArray) ++ t109) ++ (⟨#[32, 116, 111, 32]⟩ : ByteArray)).size + t110.size) = False := eq_false (Nat.not_lt.2 c8)
     by_cases c9 : a0_0 = 0
     ·rw [if_pos c9] at H
      have c9b0 : (a0_0 == 0) = true := beq_iff_eq.mpr c9
      have c9b1 : (a0_0 != 0) = false := bne_eq_false_iff_eq.mpr c9
      clear c9
      by_cases c10 : (t108 ++ (⟨#[58, 32]⟩ : ByteArray)).size + 8 ≤ 9223372036854775807
      ·rw [if_pos c10] at H
       have c10n3 := c10
       try simp only [ByteArray.size_append, show (⟨#[58, 32]⟩ : ByteArray).size = 2 from rfl] at c10n3
       try have c10n4 := eq_true c10n3
       try have c10n5 := decide_eq_true c10n3
       try have c10n6 := eq_false (Nat.not_lt.2 c10n3)
       have c10b0 := eq_true c10
       have c10b1 : decide ((t108 ++ (⟨#[58, 32]⟩ : ByteArray)).size + 8 ≤ 9223372036854775807) = true := decide_eq_true c10
       try have c10b2 : (9223372036854775807 < (t108 ++ (⟨#[58, 32]⟩ : ByteArray)).size + 8) = False := eq_false (Nat.not_lt.2 c10)
       replace H := Option.bind_eq_some_iff.mp H
       obtain ⟨t111, A110, H⟩ := H
       replace H : (if ((t108 ++ (⟨#[58, 32]⟩ : ByteArray)) ++ (⟨#[115, 99, 114, 97, 112, 101, 100, 32]⟩ : ByteArray)).size + t111.size ≤ 9223372036854775807 then (if (((t108 ++ (⟨#[58, 32]⟩ : ByteArray)) ++ (⟨#[115, 99, 114, 97, 112, 101, 100, 32]⟩ : ByteArray)) ++ t111).size + 5 ≤ 9223372036854775807 then ((spec_l01Num.f k a0_3).bind fun t112 => (if ((((t108 ++ (⟨#[58, 32]⟩ : ByteArray)) ++ (⟨#[115, 99, 114, 97, 112, 101, 100, 32]⟩ : ByteArray)) ++ t111) ++ (⟨#[32, 98, 97, 100, 32]⟩ : ByteArray)).size + t112.size ≤ 9223372036854775807 then (some (((((t108 ++ (⟨#[58, 32]⟩ : ByteArray)) ++ (⟨#[115, 99, 114, 97, 112, 101, 100, 32]⟩ : ByteArray)) ++ t111) ++ (⟨#[32, 98, 97, 100, 32]⟩ : ByteArray)) ++ t112)) else (none))) else (none)) else (none)) = some r := H
       have A11 := Aside0.mk A110
       clear A110
       by_cases c12 : ((t108 ++ (⟨#[58, 32]⟩ : ByteArray)) ++ (⟨#[115, 99, 114, 97, 112, 101, 100, 32]⟩ : ByteArray)).size + t111.size ≤ 9223372036854775807
       ·rw [if_pos c12] at H
        have c12n3 := c12
        try simp only [ByteArray.size_append, show (⟨#[115, 99, 114, 97, 112, 101, 100, 32]⟩ : ByteArray).size = 8 from rfl, show (⟨#[58, 32]⟩ : ByteArray).size = 2 from rfl] at c12n3
        try have c12n4 := eq_true c12n3
        try have c12n5 := decide_eq_true c12n3
        try have c12n6 := eq_false (Nat.not_lt.2 c12n3)
        have c12b0 := eq_true c12
        have c12b1 : decide (((t108 ++ (⟨#[58, 32]⟩ : ByteArray)) ++ (⟨#[115, 99, 114, 97, 112, 101, 100, 32]⟩ : ByteArray)).size + t111.size ≤ 9223372036854775807) = true := decide_eq_true c12
        try have c12b2 : (9223372036854775807 < ((t108 ++ (⟨#[58, 32]⟩ : ByteArray)) ++ (⟨#[115, 99, 114, 97, 112, 101, 100, 32]⟩ : ByteArray)).size + t111.size) = False := eq_false (Nat.not_lt.2 c12)
        by_cases c13 : (((t108 ++ (⟨#[58, 32]⟩ : ByteArray)) ++ (⟨#[115, 99, 114, 97, 112, 101, 100, 32]⟩ : ByteArray)) ++ t111).size + 5 ≤ 9223372036854775807
        ·rw [if_pos c13] at H
         have c13n3 := c13
         try simp only [ByteArray.size_append, show (⟨#[115, 99, 114, 97, 112, 101, 100, 32]⟩ : ByteArray).size = 8 from rfl, show (⟨#[58, 32]⟩ : ByteArray).size = 2 from rfl] at c13n3
         try have c13n4 := eq_true c13n3
         try have c13n5 := decide_eq_true c13n3
         try have c13n6 := eq_false (Nat.not_lt.2 c13n3)
         have c13b0 := eq_true c13
         have c13b1 : decide ((((t108 ++ (⟨#[58, 32]⟩ : ByteArray)) ++ (⟨#[115, 99, 114, 97, 112, 101, 100, 32]⟩ : ByteArray)) ++ t111).size + 5 ≤ 9223372036854775807) = true := decide_eq_true c13
         try have c13b2 : (9223372036854775807 < (((t108 ++ (⟨#[58, 32]⟩ : ByteArray)) ++ (⟨#[115, 99, 114, 97, 112, 101, 100, 32]⟩ : ByteArray)) ++ t111).size + 5) = False := eq_false (Nat.not_lt.2 c13)
         replace H := Option.bind_eq_some_iff.mp H
         obtain ⟨t112, A140, H⟩ := H
         replace H : (if ((((t108 ++ (⟨#[58, 32]⟩ : ByteArray)) ++ (⟨#[115, 99, 114, 97, 112, 101, 100, 32]⟩ : ByteArray)) ++ t111) ++ (⟨#[32, 98, 97, 100, 32]⟩ : ByteArray)).size + t112.size ≤ 9223372036854775807 then (some (((((t108 ++ (⟨#[58, 32]⟩ : ByteArray)) ++ (⟨#[115, 99, 114, 97, 112, 101, 100, 32]⟩ : ByteArray)) ++ t111) ++ (⟨#[32, 98, 97, 100, 32]⟩ : ByteArray)) ++ t112)) else (none)) = some r := H
         have A14 := Aside0.mk A140
         clear A140
         by_cases c15 : ((((t108 ++ (⟨#[58, 32]⟩ : ByteArray)) ++ (⟨#[115, 99, 114, 97, 112, 101, 100, 32]⟩ : ByteArray)) ++ t111) ++ (⟨#[32, 98, 97, 100, 32]⟩ : ByteArray)).size + t112.size ≤ 9223372036854775807
         ·rw [if_pos c15] at H
          have c15n3 := c15
          try simp only [ByteArray.size_append, show (⟨#[115, 99, 114, 97, 112, 101, 100, 32]⟩ : ByteArray).size = 8 from rfl, show (⟨#[32, 98, 97, 100, 32]⟩ : ByteArray).size = 5 from rfl, show (⟨#[58, 32]⟩ : ByteArray).size = 2 from rfl] at c15n3
          try have c15n4 := eq_true c15n3
          try have c15n5 := decide_eq_true c15n3
          try have c15n6 := eq_false (Nat.not_lt.2 c15n3)
          have c15b0 := eq_true c15
          have c15b1 : decide (((((t108 ++ (⟨#[58, 32]⟩ : ByteArray)) ++ (⟨#[115, 99, 114, 97, 112, 101, 100, 32]⟩ : ByteArray)) ++ t111) ++ (⟨#[32, 98, 97, 100, 32]⟩ : ByteArray)).size + t112.size ≤ 9223372036854775807) = true := decide_eq_true c15
          try have c15b2 : (9223372036854775807 < ((((t108 ++ (⟨#[58, 32]⟩ : ByteArray)) ++ (⟨#[115, 99, 114, 97, 112, 101, 100, 32]⟩ : ByteArray)) ++ t111) ++ (⟨#[32, 98, 97, 100, 32]⟩ : ByteArray)).size + t112.size) = False := eq_false (Nat.not_lt.2 c15)
          obtain rfl := Option.some.inj H
          go_enter Tryd.func7, Tryd.ntmps7
          try go_wp2_with (first | ((with_reducible refine gate_dst (N := 1) rfl ?_); refine be_ (N := 1) (cs := #[.int .i64 a0_0, .int .i64 a0_1, .int .i64 a0_2, .int .i64 a0_3]) (t := 25) ?_; intro gb107 hg w16 hbox hb; have BK107 := ak_ hbox; have GW107 := ak_ ((gs_ hg : w.heap.size ≤ gb107)); have GE107 := ak_ ((gs_ hg : w.heap.size ≤ gb107)); replace HB := ak_ (below_step hb_ hb); clear hb hbox hg; obtain ⟨hcz17_0, hcz17_1, hcz17_2, hcz17_3, hfz17_0, hfz17_1, hfz17_2, hfz17_3⟩ := bc4_ BK107.out) | ((with_reducible refine gate_callee (f := 24) rfl ?_); refine goesL_ (some 7) rfl rfl Tryd.func24 (by kernel_rfl) rfl #[.int .i64 a0_1] rfl (ma1_ rfl) ?_; (with_reducible refine (spec_l01Num.calls k a0_1 t108 _ A2.out).mono ?_); rintro e w18 ⟨rfl, hb⟩; refine ⟨_, rfl, ?_⟩; replace BK107 := ak_ (blk_below (bk_ BK107) hb); replace HB := ak_ (below_step hb_ hb); (try clear hb)))
          replace BK107 := ak_ (blk_drew BK107.out)
          replace HB := ak_ (below_drew1 HB.out)
          refine start_ (n := 10) (S := fun w' => w'.cell? ⟨gb107, 0, none⟩ = some (.int .i64 a0_0) ∧ w'.cell? ⟨gb107, 1, none⟩ = some (.int .i64 a0_1) ∧ w'.cell? ⟨gb107, 2, none⟩ = some (.int .i64 a0_2) ∧ w'.cell? ⟨gb107, 3, none⟩ = some (.int .i64 a0_3)) (ds := []) spec_EventText.d0 (by kernel_rfl) rfl rfl ⟨(blk_cell BK107.out 0).trans rfl, (blk_cell BK107.out 1).trans rfl, (blk_cell BK107.out 2).trans rfl, (blk_cell BK107.out 3).trans rfl⟩ (fun hHeld => ?_); refine with_tabW spec_EventText.tab2 spec_EventText.bits2 (fun HT_ HW_ => ?_)
          generalize w18.drew = w19 at BK107 HB hHeld ⊢
          refine pure_ (i := 0) (N := some 9) (v := ?_) (a' := ?_) spec_EventText.d1 rfl rfl (any_of HT_.out (by kernel_rfl)) (fun _ _ _ h => h) (Or.inl ⟨by rfl, ?_⟩) ?_ ?_; rotate_left; (intro w'; go_simp; with_reducible rfl); rotate_left; (simp only [Act.put, List.setIfInBounds_toArray, List.set_cons_zero, List.set_cons_succ, i64_w, i32_w]; rfl)
          refine pure_ (i := 5) (N := some 14) (v := ?_) (a' := ?_) spec_EventText.d2 rfl rfl (any_of HT_.out (by kernel_rfl)) (fun _ _ _ h => h) (Or.inl ⟨by rfl, ?_⟩) ?_ ?_; rotate_left; (intro w'; go_simp; with_reducible rfl); rotate_left; (simp only [Act.put, List.setIfInBounds_toArray, List.set_cons_zero, List.set_cons_succ, i64_w, i32_w]; rfl)
          refine take_ (i := 1) (N := some 10) (v := ?_) (a' := ?_) spec_EventText.d3 rfl rfl (take_ofW HT_.out HW_.out (by kernel_rfl)) (fun _ _ _ h => h) (Or.inl ⟨by rfl, ?_⟩) hHeld ?_ ?_; rotate_left; (rintro w' ⟨s0, s1, s2, s3⟩; go_simp; with_reducible rfl); rotate_left; (simp only [Act.put, List.setIfInBounds_toArray, List.set_cons_zero, List.set_cons_succ, i64_w, i32_w]; rfl)
          refine take_ (i := 6) (N := some 15) (v := ?_) (a' := ?_) spec_EventText.d4 rfl rfl (take_ofW HT_.out HW_.out (by kernel_rfl)) (fun _ _ _ h => h) (Or.inl ⟨by rfl, ?_⟩) hHeld ?_ ?_; rotate_left; (rintro w' ⟨s0, s1, s2, s3⟩; go_simp; with_reducible rfl); rotate_left; (simp only [Act.put, List.setIfInBounds_toArray, List.set_cons_zero, List.set_cons_succ, i64_w, i32_w]; rfl)
          refine one_ (i := 2) (N := some 11) spec_EventText.d5 rfl rfl (one_of HT_.out (by kernel_rfl)) (by decide) (fun K hK => ?_)
          refine goes_ Tryd.func24 (by kernel_rfl) rfl #[.int .i64 a0_2] (by rfl) rfl rfl (ma1_ rfl) ?_
          with_reducible refine (spec_l01Num.calls k a0_2 t109 _ A4.out).mono ?_
          rintro e w20 ⟨rfl, hb⟩
          refine ⟨_, rfl, ?_⟩
          replace BK107 := ak_ (blk_below (bk_ BK107) hb)
          replace HB := ak_ (below_step hb_ hb)
          (try clear hb)
          (try clear hb2)
          (try clear hk)
          (try clear hi)
          refine hK.out _ _ ⟨(blk_cell BK107.out 0).trans rfl, (blk_cell BK107.out 1).trans rfl, (blk_cell BK107.out 2).trans rfl, (blk_cell BK107.out 3).trans rfl⟩ (fun hHeld => ?_)
          clear hK K
          refine norm_ (a' := ?_) ?_ ?_
          rotate_left
          ·show Act.put _ (some 11) _ = _
           simp only [Act.put, List.setIfInBounds_toArray, List.set_cons_zero, List.set_cons_succ, i64_w, i32_w]
           rfl
          refine pure_ (i := 3) (N := some 12) (v := ?_) (a' := ?_) spec_EventText.d6 rfl rfl (any_of HT_.out (by kernel_rfl)) (fun _ _ _ h => h) (Or.inl ⟨by rfl, ?_⟩) ?_ ?_; rotate_left; (intro w'; go_simp; with_reducible rfl); rotate_left; (simp only [Act.put, List.setIfInBounds_toArray, List.set_cons_zero, List.set_cons_succ, i64_w, i32_w]; rfl)
          refine pure_ (i := 4) (N := some 13) (v := ?_) (a' := ?_) spec_EventText.d7 rfl rfl (any_of HT_.out (by kernel_rfl)) (fun _ _ _ h => h) (Or.inl ⟨by rfl, ?_⟩) ?_ ?_; rotate_left; (intro w'; go_simp; with_reducible rfl); rotate_left; (simp only [Act.put, List.setIfInBounds_toArray, List.set_cons_zero, List.set_cons_succ, i64_w, i32_w]; rfl)
          refine one_ (i := 7) (N := some 16) spec_EventText.d8 rfl rfl (one_of HT_.out (by kernel_rfl)) (by decide) (fun K hK => ?_)
          refine goes_ Tryd.func24 (by kernel_rfl) rfl #[.int .i64 a0_3] (by rfl) rfl rfl (ma1_ rfl) ?_
          with_reducible refine (spec_l01Num.calls k a0_3 t110 _ A7.out).mono ?_
          rintro e w21 ⟨rfl, hb⟩
          refine ⟨_, rfl, ?_⟩
          replace BK107 := ak_ (blk_below (bk_ BK107) hb)
          replace HB := ak_ (below_step hb_ hb)
          (try clear hb)
          (try clear hb2)
          (try clear hk)
          (try clear hi)
          refine hK.out _ _ ⟨(blk_cell BK107.out 0).trans rfl, (blk_cell BK107.out 1).trans rfl, (blk_cell BK107.out 2).trans rfl, (blk_cell BK107.out 3).trans rfl⟩ (fun hHeld => ?_)
          clear hK K
          refine norm_ (a' := ?_) ?_ ?_
          rotate_left
          ·show Act.put _ (some 16) _ = _
           simp only [Act.put, List.setIfInBounds_toArray, List.set_cons_zero, List.set_cons_succ, i64_w, i32_w]
           rfl
          refine pure_ (i := 8) (N := some 17) (v := ?_) (a' := ?_) spec_EventText.d9 rfl rfl (any_of HT_.out (by kernel_rfl)) (fun _ _ _ h => h) (Or.inl ⟨by rfl, ?_⟩) ?_ ?_; rotate_left; (intro w'; go_simp; with_reducible rfl); rotate_left; (simp only [Act.put, List.setIfInBounds_toArray, List.set_cons_zero, List.set_cons_succ, i64_w, i32_w]; rfl)
          refine pure_ (i := 9) (N := some 4) (v := ?_) (a' := ?_) spec_EventText.d10 rfl rfl (any_of HT_.out (by kernel_rfl)) (fun _ _ _ h => h) (Or.inl ⟨by rfl, ?_⟩) ?_ ?_; rotate_left; (intro w'; go_simp; with_reducible rfl); rotate_left; (simp only [Act.put, List.setIfInBounds_toArray, List.set_cons_zero, List.set_cons_succ, i64_w, i32_w]; rfl)
          refine done_ (done_of HT_.out (by kernel_rfl)) ?_
          obtain ⟨hcz22_0, hcz22_1, hcz22_2, hcz22_3, hfz22_0, hfz22_1, hfz22_2, hfz22_3⟩ := bc4_ BK107.out
          try go_wp2
          replace BK107 := ak_ (blk_drew BK107.out)
          replace HB := ak_ (below_drew1 HB.out)
          refine start_ (n := 12) (S := fun w' => w'.cell? ⟨gb107, 0, none⟩ = some (.int .i64 a0_0) ∧ w'.cell? ⟨gb107, 1, none⟩ = some (.int .i64 a0_1) ∧ w'.cell? ⟨gb107, 2, none⟩ = some (.int .i64 a0_2) ∧ w'.cell? ⟨gb107, 3, none⟩ = some (.int .i64 a0_3)) (ds := []) #[false, false, false, false, false, false, false, false, false, false, false, false] (by kernel_rfl) rfl rfl ⟨(blk_cell BK107.out 0).trans rfl, (blk_cell BK107.out 1).trans rfl, (blk_cell BK107.out 2).trans rfl, (blk_cell BK107.out 3).trans rfl⟩ (fun hHeld => ?_); refine with_tabW spec_EventText.tab5 spec_EventText.bits5 (fun HT_ HW_ => ?_)
          generalize w21.drew = w23 at BK107 HB hHeld ⊢
          refine pure_ (i := 0) (N := some 22) (v := ?_) (a' := ?_) #[true, false, false, false, false, false, false, false, false, false, false, false] rfl rfl (any_of HT_.out (by kernel_rfl)) (fun _ _ _ h => h) (Or.inl ⟨by rfl, ?_⟩) ?_ ?_; rotate_left; (intro w'; go_simp; with_reducible rfl); rotate_left; (simp only [Act.put, List.setIfInBounds_toArray, List.set_cons_zero, List.set_cons_succ, i64_w, i32_w]; rfl)
          refine pure_ (i := 1) (N := some 23) (v := ?_) (a' := ?_) #[true, true, false, false, false, false, false, false, false, false, false, false] rfl rfl (any_of HT_.out (by kernel_rfl)) (fun _ _ _ h => h) (Or.inl ⟨by rfl, ?_⟩) ?_ ?_; rotate_left; (intro w'; go_simp; with_reducible rfl); rotate_left; (simp only [Act.put, List.setIfInBounds_toArray, List.set_cons_zero, List.set_cons_succ, i64_w, i32_w]; rfl)
          refine pure_ (i := 2) (N := some 24) (v := ?_) (a' := ?_) #[true, true, true, false, false, false, false, false, false, false, false, false] rfl rfl (any_of HT_.out (by kernel_rfl)) (fun _ _ _ h => h) (Or.inl ⟨by rfl, ?_⟩) ?_ ?_; rotate_left; (intro w'; go_simp; with_reducible rfl); rotate_left; (simp only [Act.put, List.setIfInBounds_toArray, List.set_cons_zero, List.set_cons_succ, i64_w, i32_w]; rfl)
          refine pure_ (i := 7) (N := some 29) (v := ?_) (a' := ?_) #[true, true, true, false, false, false, false, true, false, false, false, false] rfl rfl (any_of HT_.out (by kernel_rfl)) (fun _ _ _ h => h) (Or.inl ⟨by rfl, ?_⟩) ?_ ?_; rotate_left; (intro w'; go_simp; with_reducible rfl); rotate_left; (simp only [Act.put, List.setIfInBounds_toArray, List.set_cons_zero, List.set_cons_succ, i64_w, i32_w]; rfl)
          refine take_ (i := 3) (N := some 25) (v := ?_) (a' := ?_) #[true, true, true, true, false, false, false, true, false, false, false, false] rfl rfl (take_ofW HT_.out HW_.out (by kernel_rfl)) (fun _ _ _ h => h) (Or.inl ⟨by rfl, ?_⟩) hHeld ?_ ?_; rotate_left; (rintro w' ⟨s0, s1, s2, s3⟩; go_simp; with_reducible rfl); rotate_left; (simp only [Act.put, List.setIfInBounds_toArray, List.set_cons_zero, List.set_cons_succ, i64_w, i32_w]; rfl)
          refine take_ (i := 8) (N := some 30) (v := ?_) (a' := ?_) #[true, true, true, true, false, false, false, true, true, false, false, false] rfl rfl (take_ofW HT_.out HW_.out (by kernel_rfl)) (fun _ _ _ h => h) (Or.inl ⟨by rfl, ?_⟩) hHeld ?_ ?_; rotate_left; (rintro w' ⟨s0, s1, s2, s3⟩; go_simp; with_reducible rfl); rotate_left; (simp only [Act.put, List.setIfInBounds_toArray, List.set_cons_zero, List.set_cons_succ, i64_w, i32_w]; rfl)
          refine one_ (i := 4) (N := some 26) #[true, true, true, true, true, false, false, true, true, false, false, false] rfl rfl (one_of HT_.out (by kernel_rfl)) (by decide) (fun K hK => ?_)
          refine goes_ Tryd.func24 (by kernel_rfl) rfl #[.int .i64 a0_2] (by rfl) rfl rfl (ma1_ rfl) ?_
          with_reducible refine (spec_l01Num.calls k a0_2 t111 _ A11.out).mono ?_
          rintro e w24 ⟨rfl, hb⟩
          refine ⟨_, rfl, ?_⟩
          replace BK107 := ak_ (blk_below (bk_ BK107) hb)
          replace HB := ak_ (below_step hb_ hb)
          (try clear hb)
          (try clear hb2)
          (try clear hk)
          (try clear hi)
          refine hK.out _ _ ⟨(blk_cell BK107.out 0).trans rfl, (blk_cell BK107.out 1).trans rfl, (blk_cell BK107.out 2).trans rfl, (blk_cell BK107.out 3).trans rfl⟩ (fun hHeld => ?_)
          clear hK K
          refine norm_ (a' := ?_) ?_ ?_
          rotate_left
          ·show Act.put _ (some 26) _ = _
           simp only [Act.put, List.setIfInBounds_toArray, List.set_cons_zero, List.set_cons_succ, i64_w, i32_w]
           rfl
          refine pure_ (i := 5) (N := some 27) (v := ?_) (a' := ?_) #[true, true, true, true, true, true, false, true, true, false, false, false] rfl rfl (any_of HT_.out (by kernel_rfl)) (fun _ _ _ h => h) (Or.inl ⟨by rfl, ?_⟩) ?_ ?_; rotate_left; (intro w'; go_simp; with_reducible rfl); rotate_left; (simp only [Act.put, List.setIfInBounds_toArray, List.set_cons_zero, List.set_cons_succ, i64_w, i32_w]; rfl)
          refine pure_ (i := 6) (N := some 28) (v := ?_) (a' := ?_) #[true, true, true, true, true, true, true, true, true, false, false, false] rfl rfl (any_of HT_.out (by kernel_rfl)) (fun _ _ _ h => h) (Or.inl ⟨by rfl, ?_⟩) ?_ ?_; rotate_left; (intro w'; go_simp; with_reducible rfl); rotate_left; (simp only [Act.put, List.setIfInBounds_toArray, List.set_cons_zero, List.set_cons_succ, i64_w, i32_w]; rfl)
          refine one_ (i := 9) (N := some 31) #[true, true, true, true, true, true, true, true, true, true, false, false] rfl rfl (one_of HT_.out (by kernel_rfl)) (by decide) (fun K hK => ?_)
          refine goes_ Tryd.func24 (by kernel_rfl) rfl #[.int .i64 a0_3] (by rfl) rfl rfl (ma1_ rfl) ?_
          with_reducible refine (spec_l01Num.calls k a0_3 t112 _ A14.out).mono ?_
          rintro e w25 ⟨rfl, hb⟩
          refine ⟨_, rfl, ?_⟩
          replace BK107 := ak_ (blk_below (bk_ BK107) hb)
          replace HB := ak_ (below_step hb_ hb)
          (try clear hb)
          (try clear hb2)
          (try clear hk)
          (try clear hi)
          refine hK.out _ _ ⟨(blk_cell BK107.out 0).trans rfl, (blk_cell BK107.out 1).trans rfl, (blk_cell BK107.out 2).trans rfl, (blk_cell BK107.out 3).trans rfl⟩ (fun hHeld => ?_)
          clear hK K
          refine norm_ (a' := ?_) ?_ ?_
          rotate_left
          ·show Act.put _ (some 31) _ = _
           simp only [Act.put, List.setIfInBounds_toArray, List.set_cons_zero, List.set_cons_succ, i64_w, i32_w]
           rfl
          refine pure_ (i := 10) (N := some 32) (v := ?_) (a' := ?_) #[true, true, true, true, true, true, true, true, true, true, true, false] rfl rfl (any_of HT_.out (by kernel_rfl)) (fun _ _ _ h => h) (Or.inl ⟨by rfl, ?_⟩) ?_ ?_; rotate_left; (intro w'; go_simp; with_reducible rfl); rotate_left; (simp only [Act.put, List.setIfInBounds_toArray, List.set_cons_zero, List.set_cons_succ, i64_w, i32_w]; rfl)
          refine pure_ (i := 11) (N := some 2) (v := ?_) (a' := ?_) #[true, true, true, true, true, true, true, true, true, true, true, true] rfl rfl (any_of HT_.out (by kernel_rfl)) (fun _ _ _ h => h) (Or.inl ⟨by rfl, ?_⟩) ?_ ?_; rotate_left; (intro w'; go_simp; with_reducible rfl); rotate_left; (simp only [Act.put, List.setIfInBounds_toArray, List.set_cons_zero, List.set_cons_succ, i64_w, i32_w]; rfl)
          refine done_ (done_of HT_.out (by kernel_rfl)) ?_
          try go_wp2
          go_ret
          exact ⟨ew_, hb_⟩
         ·rw [if_neg c15] at H
          exact absurd H (by simp)
        ·rw [if_neg c13] at H
         exact absurd H (by simp)
       ·rw [if_neg c12] at H
        exact absurd H (by simp)
      ·rw [if_neg c10] at H
       exact absurd H (by simp)
     ·rw [if_neg c9] at H
      have c9b0 : (a0_0 == 0) = false := beq_eq_false_iff_ne.mpr c9
      have c9b1 : (a0_0 != 0) = true := bne_iff_ne.mpr c9
      by_cases c26 : a0_0 = 1
      ·rw [if_pos c26] at H
       have c26b0 : (a0_0 == 1) = true := beq_iff_eq.mpr c26
       have c26b1 : (a0_0 != 1) = false := bne_eq_false_iff_eq.mpr c26
       clear c26
       by_cases c27 : (t108 ++ (⟨#[58, 32]⟩ : ByteArray)).size + 5 ≤ 9223372036854775807
       ·rw [if_pos c27] at H
        have c27n3 := c27
        try simp only [ByteArray.size_append, show (⟨#[58, 32]⟩ : ByteArray).size = 2 from rfl] at c27n3
        try have c27n4 := eq_true c27n3
        try have c27n5 := decide_eq_true c27n3
        try have c27n6 := eq_false (Nat.not_lt.2 c27n3)
        have c27b0 := eq_true c27
        have c27b1 : decide ((t108 ++ (⟨#[58, 32]⟩ : ByteArray)).size + 5 ≤ 9223372036854775807) = true := decide_eq_true c27
        try have c27b2 : (9223372036854775807 < (t108 ++ (⟨#[58, 32]⟩ : ByteArray)).size + 5) = False := eq_false (Nat.not_lt.2 c27)
        by_cases c28 : ((t108 ++ (⟨#[58, 32]⟩ : ByteArray)) ++ (⟨#[109, 111, 118, 101, 100]⟩ : ByteArray)).size + ((((⟨#[32]⟩ : ByteArray) ++ t109) ++ (⟨#[32, 116, 111, 32]⟩ : ByteArray)) ++ t110).size ≤ 9223372036854775807
        ·rw [if_pos c28] at H
         have c28n3 := c28
         try simp only [ByteArray.size_append, show (⟨#[109, 111, 118, 101, 100]⟩ : ByteArray).size = 5 from rfl, show (⟨#[32]⟩ : ByteArray).size = 1 from rfl, show (⟨#[32, 116, 111, 32]⟩ : ByteArray).size = 4 from rfl, show (⟨#[58, 32]⟩ : ByteArray).size = 2 from rfl] at c28n3
         try have c28n4 := eq_true c28n3
         try have c28n5 := decide_eq_true c28n3
         try have c28n6 := eq_false (Nat.not_lt.2 c28n3)
         have c28b0 := eq_true c28
         have c28b1 : decide (((t108 ++ (⟨#[58, 32]⟩ : ByteArray)) ++ (⟨#[109, 111, 118, 101, 100]⟩ : ByteArray)).size + ((((⟨#[32]⟩ : ByteArray) ++ t109) ++ (⟨#[32, 116, 111, 32]⟩ : ByteArray)) ++ t110).size ≤ 9223372036854775807) = true := decide_eq_true c28
         try have c28b2 : (9223372036854775807 < ((t108 ++ (⟨#[58, 32]⟩ : ByteArray)) ++ (⟨#[109, 111, 118, 101, 100]⟩ : ByteArray)).size + ((((⟨#[32]⟩ : ByteArray) ++ t109) ++ (⟨#[32, 116, 111, 32]⟩ : ByteArray)) ++ t110).size) = False := eq_false (Nat.not_lt.2 c28)
         obtain rfl := Option.some.inj H
         go_enter Tryd.func7, Tryd.ntmps7
         try go_wp2_with (first | ((with_reducible refine gate_dst (N := 1) rfl ?_); refine be_ (N := 1) (cs := #[.int .i64 a0_0, .int .i64 a0_1, .int .i64 a0_2, .int .i64 a0_3]) (t := 25) ?_; intro gb107 hg w29 hbox hb; have BK107 := ak_ hbox; have GW107 := ak_ ((gs_ hg : w.heap.size ≤ gb107)); have GE107 := ak_ ((gs_ hg : w.heap.size ≤ gb107)); replace HB := ak_ (below_step hb_ hb); clear hb hbox hg; obtain ⟨hcz30_0, hcz30_1, hcz30_2, hcz30_3, hfz30_0, hfz30_1, hfz30_2, hfz30_3⟩ := bc4_ BK107.out) | ((with_reducible refine gate_callee (f := 24) rfl ?_); refine goesL_ (some 7) rfl rfl Tryd.func24 (by kernel_rfl) rfl #[.int .i64 a0_1] rfl (ma1_ rfl) ?_; (with_reducible refine (spec_l01Num.calls k a0_1 t108 _ A2.out).mono ?_); rintro e w31 ⟨rfl, hb⟩; refine ⟨_, rfl, ?_⟩; replace BK107 := ak_ (blk_below (bk_ BK107) hb); replace HB := ak_ (below_step hb_ hb); (try clear hb)))
         replace BK107 := ak_ (blk_drew BK107.out)
         replace HB := ak_ (below_drew1 HB.out)
         refine start_ (n := 10) (S := fun w' => w'.cell? ⟨gb107, 0, none⟩ = some (.int .i64 a0_0) ∧ w'.cell? ⟨gb107, 1, none⟩ = some (.int .i64 a0_1) ∧ w'.cell? ⟨gb107, 2, none⟩ = some (.int .i64 a0_2) ∧ w'.cell? ⟨gb107, 3, none⟩ = some (.int .i64 a0_3)) (ds := []) spec_EventText.d0 (by kernel_rfl) rfl rfl ⟨(blk_cell BK107.out 0).trans rfl, (blk_cell BK107.out 1).trans rfl, (blk_cell BK107.out 2).trans rfl, (blk_cell BK107.out 3).trans rfl⟩ (fun hHeld => ?_); refine with_tabW spec_EventText.tab2 spec_EventText.bits2 (fun HT_ HW_ => ?_)
         generalize w31.drew = w32 at BK107 HB hHeld ⊢
         refine pure_ (i := 0) (N := some 9) (v := ?_) (a' := ?_) spec_EventText.d1 rfl rfl (any_of HT_.out (by kernel_rfl)) (fun _ _ _ h => h) (Or.inl ⟨by rfl, ?_⟩) ?_ ?_; rotate_left; (intro w'; go_simp; with_reducible rfl); rotate_left; (simp only [Act.put, List.setIfInBounds_toArray, List.set_cons_zero, List.set_cons_succ, i64_w, i32_w]; rfl)
         refine pure_ (i := 5) (N := some 14) (v := ?_) (a' := ?_) spec_EventText.d2 rfl rfl (any_of HT_.out (by kernel_rfl)) (fun _ _ _ h => h) (Or.inl ⟨by rfl, ?_⟩) ?_ ?_; rotate_left; (intro w'; go_simp; with_reducible rfl); rotate_left; (simp only [Act.put, List.setIfInBounds_toArray, List.set_cons_zero, List.set_cons_succ, i64_w, i32_w]; rfl)
         refine take_ (i := 1) (N := some 10) (v := ?_) (a' := ?_) spec_EventText.d3 rfl rfl (take_ofW HT_.out HW_.out (by kernel_rfl)) (fun _ _ _ h => h) (Or.inl ⟨by rfl, ?_⟩) hHeld ?_ ?_; rotate_left; (rintro w' ⟨s0, s1, s2, s3⟩; go_simp; with_reducible rfl); rotate_left; (simp only [Act.put, List.setIfInBounds_toArray, List.set_cons_zero, List.set_cons_succ, i64_w, i32_w]; rfl)
         refine take_ (i := 6) (N := some 15) (v := ?_) (a' := ?_) spec_EventText.d4 rfl rfl (take_ofW HT_.out HW_.out (by kernel_rfl)) (fun _ _ _ h => h) (Or.inl ⟨by rfl, ?_⟩) hHeld ?_ ?_; rotate_left; (rintro w' ⟨s0, s1, s2, s3⟩; go_simp; with_reducible rfl); rotate_left; (simp only [Act.put, List.setIfInBounds_toArray, List.set_cons_zero, List.set_cons_succ, i64_w, i32_w]; rfl)
         refine one_ (i := 2) (N := some 11) spec_EventText.d5 rfl rfl (one_of HT_.out (by kernel_rfl)) (by decide) (fun K hK => ?_)
         refine goes_ Tryd.func24 (by kernel_rfl) rfl #[.int .i64 a0_2] (by rfl) rfl rfl (ma1_ rfl) ?_
         with_reducible refine (spec_l01Num.calls k a0_2 t109 _ A4.out).mono ?_
         rintro e w33 ⟨rfl, hb⟩
         refine ⟨_, rfl, ?_⟩
         replace BK107 := ak_ (blk_below (bk_ BK107) hb)
         replace HB := ak_ (below_step hb_ hb)
         (try clear hb)
         (try clear hb2)
         (try clear hk)
         (try clear hi)
         refine hK.out _ _ ⟨(blk_cell BK107.out 0).trans rfl, (blk_cell BK107.out 1).trans rfl, (blk_cell BK107.out 2).trans rfl, (blk_cell BK107.out 3).trans rfl⟩ (fun hHeld => ?_)
         clear hK K
         refine norm_ (a' := ?_) ?_ ?_
         rotate_left
         ·show Act.put _ (some 11) _ = _
          simp only [Act.put, List.setIfInBounds_toArray, List.set_cons_zero, List.set_cons_succ, i64_w, i32_w]
          rfl
         refine pure_ (i := 3) (N := some 12) (v := ?_) (a' := ?_) spec_EventText.d6 rfl rfl (any_of HT_.out (by kernel_rfl)) (fun _ _ _ h => h) (Or.inl ⟨by rfl, ?_⟩) ?_ ?_; rotate_left; (intro w'; go_simp; with_reducible rfl); rotate_left; (simp only [Act.put, List.setIfInBounds_toArray, List.set_cons_zero, List.set_cons_succ, i64_w, i32_w]; rfl)
         refine pure_ (i := 4) (N := some 13) (v := ?_) (a' := ?_) spec_EventText.d7 rfl rfl (any_of HT_.out (by kernel_rfl)) (fun _ _ _ h => h) (Or.inl ⟨by rfl, ?_⟩) ?_ ?_; rotate_left; (intro w'; go_simp; with_reducible rfl); rotate_left; (simp only [Act.put, List.setIfInBounds_toArray, List.set_cons_zero, List.set_cons_succ, i64_w, i32_w]; rfl)
         refine one_ (i := 7) (N := some 16) spec_EventText.d8 rfl rfl (one_of HT_.out (by kernel_rfl)) (by decide) (fun K hK => ?_)
         refine goes_ Tryd.func24 (by kernel_rfl) rfl #[.int .i64 a0_3] (by rfl) rfl rfl (ma1_ rfl) ?_
         with_reducible refine (spec_l01Num.calls k a0_3 t110 _ A7.out).mono ?_
         rintro e w34 ⟨rfl, hb⟩
         refine ⟨_, rfl, ?_⟩
         replace BK107 := ak_ (blk_below (bk_ BK107) hb)
         replace HB := ak_ (below_step hb_ hb)
         (try clear hb)
         (try clear hb2)
         (try clear hk)
         (try clear hi)
         refine hK.out _ _ ⟨(blk_cell BK107.out 0).trans rfl, (blk_cell BK107.out 1).trans rfl, (blk_cell BK107.out 2).trans rfl, (blk_cell BK107.out 3).trans rfl⟩ (fun hHeld => ?_)
         clear hK K
         refine norm_ (a' := ?_) ?_ ?_
         rotate_left
         ·show Act.put _ (some 16) _ = _
          simp only [Act.put, List.setIfInBounds_toArray, List.set_cons_zero, List.set_cons_succ, i64_w, i32_w]
          rfl
         refine pure_ (i := 8) (N := some 17) (v := ?_) (a' := ?_) spec_EventText.d9 rfl rfl (any_of HT_.out (by kernel_rfl)) (fun _ _ _ h => h) (Or.inl ⟨by rfl, ?_⟩) ?_ ?_; rotate_left; (intro w'; go_simp; with_reducible rfl); rotate_left; (simp only [Act.put, List.setIfInBounds_toArray, List.set_cons_zero, List.set_cons_succ, i64_w, i32_w]; rfl)
         refine pure_ (i := 9) (N := some 4) (v := ?_) (a' := ?_) spec_EventText.d10 rfl rfl (any_of HT_.out (by kernel_rfl)) (fun _ _ _ h => h) (Or.inl ⟨by rfl, ?_⟩) ?_ ?_; rotate_left; (intro w'; go_simp; with_reducible rfl); rotate_left; (simp only [Act.put, List.setIfInBounds_toArray, List.set_cons_zero, List.set_cons_succ, i64_w, i32_w]; rfl)
         refine done_ (done_of HT_.out (by kernel_rfl)) ?_
         obtain ⟨hcz35_0, hcz35_1, hcz35_2, hcz35_3, hfz35_0, hfz35_1, hfz35_2, hfz35_3⟩ := bc4_ BK107.out
         try go_wp2
         go_ret
         exact ⟨ew_, hb_⟩
        ·rw [if_neg c28] at H
         exact absurd H (by simp)
       ·rw [if_neg c27] at H
        exact absurd H (by simp)
      ·rw [if_neg c26] at H
       have c26b0 : (a0_0 == 1) = false := beq_eq_false_iff_ne.mpr c26
       have c26b1 : (a0_0 != 1) = true := bne_iff_ne.mpr c26
       by_cases c36 : a0_0 = 2
       ·rw [if_pos c36] at H
        have c36b0 : (a0_0 == 2) = true := beq_iff_eq.mpr c36
        have c36b1 : (a0_0 != 2) = false := bne_eq_false_iff_eq.mpr c36
        clear c36
        by_cases c37 : (t108 ++ (⟨#[58, 32]⟩ : ByteArray)).size + 6 ≤ 9223372036854775807
        ·rw [if_pos c37] at H
         have c37n3 := c37
         try simp only [ByteArray.size_append, show (⟨#[58, 32]⟩ : ByteArray).size = 2 from rfl] at c37n3
         try have c37n4 := eq_true c37n3
         try have c37n5 := decide_eq_true c37n3
         try have c37n6 := eq_false (Nat.not_lt.2 c37n3)
         have c37b0 := eq_true c37
         have c37b1 : decide ((t108 ++ (⟨#[58, 32]⟩ : ByteArray)).size + 6 ≤ 9223372036854775807) = true := decide_eq_true c37
         try have c37b2 : (9223372036854775807 < (t108 ++ (⟨#[58, 32]⟩ : ByteArray)).size + 6) = False := eq_false (Nat.not_lt.2 c37)
         by_cases c38 : ((t108 ++ (⟨#[58, 32]⟩ : ByteArray)) ++ (⟨#[102, 97, 105, 108, 101, 100]⟩ : ByteArray)).size + ((((⟨#[32]⟩ : ByteArray) ++ t109) ++ (⟨#[32, 116, 111, 32]⟩ : ByteArray)) ++ t110).size ≤ 9223372036854775807
         ·rw [if_pos c38] at H
          have c38n3 := c38
          try simp only [ByteArray.size_append, show (⟨#[102, 97, 105, 108, 101, 100]⟩ : ByteArray).size = 6 from rfl, show (⟨#[32]⟩ : ByteArray).size = 1 from rfl, show (⟨#[32, 116, 111, 32]⟩ : ByteArray).size = 4 from rfl, show (⟨#[58, 32]⟩ : ByteArray).size = 2 from rfl] at c38n3
          try have c38n4 := eq_true c38n3
          try have c38n5 := decide_eq_true c38n3
          try have c38n6 := eq_false (Nat.not_lt.2 c38n3)
          have c38b0 := eq_true c38
          have c38b1 : decide (((t108 ++ (⟨#[58, 32]⟩ : ByteArray)) ++ (⟨#[102, 97, 105, 108, 101, 100]⟩ : ByteArray)).size + ((((⟨#[32]⟩ : ByteArray) ++ t109) ++ (⟨#[32, 116, 111, 32]⟩ : ByteArray)) ++ t110).size ≤ 9223372036854775807) = true := decide_eq_true c38
          try have c38b2 : (9223372036854775807 < ((t108 ++ (⟨#[58, 32]⟩ : ByteArray)) ++ (⟨#[102, 97, 105, 108, 101, 100]⟩ : ByteArray)).size + ((((⟨#[32]⟩ : ByteArray) ++ t109) ++ (⟨#[32, 116, 111, 32]⟩ : ByteArray)) ++ t110).size) = False := eq_false (Nat.not_lt.2 c38)
          obtain rfl := Option.some.inj H
          go_enter Tryd.func7, Tryd.ntmps7
          try go_wp2_with (first | ((with_reducible refine gate_dst (N := 1) rfl ?_); refine be_ (N := 1) (cs := #[.int .i64 a0_0, .int .i64 a0_1, .int .i64 a0_2, .int .i64 a0_3]) (t := 25) ?_; intro gb107 hg w39 hbox hb; have BK107 := ak_ hbox; have GW107 := ak_ ((gs_ hg : w.heap.size ≤ gb107)); have GE107 := ak_ ((gs_ hg : w.heap.size ≤ gb107)); replace HB := ak_ (below_step hb_ hb); clear hb hbox hg; obtain ⟨hcz40_0, hcz40_1, hcz40_2, hcz40_3, hfz40_0, hfz40_1, hfz40_2, hfz40_3⟩ := bc4_ BK107.out) | ((with_reducible refine gate_callee (f := 24) rfl ?_); refine goesL_ (some 7) rfl rfl Tryd.func24 (by kernel_rfl) rfl #[.int .i64 a0_1] rfl (ma1_ rfl) ?_; (with_reducible refine (spec_l01Num.calls k a0_1 t108 _ A2.out).mono ?_); rintro e w41 ⟨rfl, hb⟩; refine ⟨_, rfl, ?_⟩; replace BK107 := ak_ (blk_below (bk_ BK107) hb); replace HB := ak_ (below_step hb_ hb); (try clear hb)))
          replace BK107 := ak_ (blk_drew BK107.out)
          replace HB := ak_ (below_drew1 HB.out)
          refine start_ (n := 10) (S := fun w' => w'.cell? ⟨gb107, 0, none⟩ = some (.int .i64 a0_0) ∧ w'.cell? ⟨gb107, 1, none⟩ = some (.int .i64 a0_1) ∧ w'.cell? ⟨gb107, 2, none⟩ = some (.int .i64 a0_2) ∧ w'.cell? ⟨gb107, 3, none⟩ = some (.int .i64 a0_3)) (ds := []) spec_EventText.d0 (by kernel_rfl) rfl rfl ⟨(blk_cell BK107.out 0).trans rfl, (blk_cell BK107.out 1).trans rfl, (blk_cell BK107.out 2).trans rfl, (blk_cell BK107.out 3).trans rfl⟩ (fun hHeld => ?_); refine with_tabW spec_EventText.tab2 spec_EventText.bits2 (fun HT_ HW_ => ?_)
          generalize w41.drew = w42 at BK107 HB hHeld ⊢
          refine pure_ (i := 0) (N := some 9) (v := ?_) (a' := ?_) spec_EventText.d1 rfl rfl (any_of HT_.out (by kernel_rfl)) (fun _ _ _ h => h) (Or.inl ⟨by rfl, ?_⟩) ?_ ?_; rotate_left; (intro w'; go_simp; with_reducible rfl); rotate_left; (simp only [Act.put, List.setIfInBounds_toArray, List.set_cons_zero, List.set_cons_succ, i64_w, i32_w]; rfl)
          refine pure_ (i := 5) (N := some 14) (v := ?_) (a' := ?_) spec_EventText.d2 rfl rfl (any_of HT_.out (by kernel_rfl)) (fun _ _ _ h => h) (Or.inl ⟨by rfl, ?_⟩) ?_ ?_; rotate_left; (intro w'; go_simp; with_reducible rfl); rotate_left; (simp only [Act.put, List.setIfInBounds_toArray, List.set_cons_zero, List.set_cons_succ, i64_w, i32_w]; rfl)
          refine take_ (i := 1) (N := some 10) (v := ?_) (a' := ?_) spec_EventText.d3 rfl rfl (take_ofW HT_.out HW_.out (by kernel_rfl)) (fun _ _ _ h => h) (Or.inl ⟨by rfl, ?_⟩) hHeld ?_ ?_; rotate_left; (rintro w' ⟨s0, s1, s2, s3⟩; go_simp; with_reducible rfl); rotate_left; (simp only [Act.put, List.setIfInBounds_toArray, List.set_cons_zero, List.set_cons_succ, i64_w, i32_w]; rfl)
          refine take_ (i := 6) (N := some 15) (v := ?_) (a' := ?_) spec_EventText.d4 rfl rfl (take_ofW HT_.out HW_.out (by kernel_rfl)) (fun _ _ _ h => h) (Or.inl ⟨by rfl, ?_⟩) hHeld ?_ ?_; rotate_left; (rintro w' ⟨s0, s1, s2, s3⟩; go_simp; with_reducible rfl); rotate_left; (simp only [Act.put, List.setIfInBounds_toArray, List.set_cons_zero, List.set_cons_succ, i64_w, i32_w]; rfl)
          refine one_ (i := 2) (N := some 11) spec_EventText.d5 rfl rfl (one_of HT_.out (by kernel_rfl)) (by decide) (fun K hK => ?_)
          refine goes_ Tryd.func24 (by kernel_rfl) rfl #[.int .i64 a0_2] (by rfl) rfl rfl (ma1_ rfl) ?_
          with_reducible refine (spec_l01Num.calls k a0_2 t109 _ A4.out).mono ?_
          rintro e w43 ⟨rfl, hb⟩
          refine ⟨_, rfl, ?_⟩
          replace BK107 := ak_ (blk_below (bk_ BK107) hb)
          replace HB := ak_ (below_step hb_ hb)
          (try clear hb)
          (try clear hb2)
          (try clear hk)
          (try clear hi)
          refine hK.out _ _ ⟨(blk_cell BK107.out 0).trans rfl, (blk_cell BK107.out 1).trans rfl, (blk_cell BK107.out 2).trans rfl, (blk_cell BK107.out 3).trans rfl⟩ (fun hHeld => ?_)
          clear hK K
          refine norm_ (a' := ?_) ?_ ?_
          rotate_left
          ·show Act.put _ (some 11) _ = _
           simp only [Act.put, List.setIfInBounds_toArray, List.set_cons_zero, List.set_cons_succ, i64_w, i32_w]
           rfl
          refine pure_ (i := 3) (N := some 12) (v := ?_) (a' := ?_) spec_EventText.d6 rfl rfl (any_of HT_.out (by kernel_rfl)) (fun _ _ _ h => h) (Or.inl ⟨by rfl, ?_⟩) ?_ ?_; rotate_left; (intro w'; go_simp; with_reducible rfl); rotate_left; (simp only [Act.put, List.setIfInBounds_toArray, List.set_cons_zero, List.set_cons_succ, i64_w, i32_w]; rfl)
          refine pure_ (i := 4) (N := some 13) (v := ?_) (a' := ?_) spec_EventText.d7 rfl rfl (any_of HT_.out (by kernel_rfl)) (fun _ _ _ h => h) (Or.inl ⟨by rfl, ?_⟩) ?_ ?_; rotate_left; (intro w'; go_simp; with_reducible rfl); rotate_left; (simp only [Act.put, List.setIfInBounds_toArray, List.set_cons_zero, List.set_cons_succ, i64_w, i32_w]; rfl)
          refine one_ (i := 7) (N := some 16) spec_EventText.d8 rfl rfl (one_of HT_.out (by kernel_rfl)) (by decide) (fun K hK => ?_)
          refine goes_ Tryd.func24 (by kernel_rfl) rfl #[.int .i64 a0_3] (by rfl) rfl rfl (ma1_ rfl) ?_
          with_reducible refine (spec_l01Num.calls k a0_3 t110 _ A7.out).mono ?_
          rintro e w44 ⟨rfl, hb⟩
          refine ⟨_, rfl, ?_⟩
          replace BK107 := ak_ (blk_below (bk_ BK107) hb)
          replace HB := ak_ (below_step hb_ hb)
          (try clear hb)
          (try clear hb2)
          (try clear hk)
          (try clear hi)
          refine hK.out _ _ ⟨(blk_cell BK107.out 0).trans rfl, (blk_cell BK107.out 1).trans rfl, (blk_cell BK107.out 2).trans rfl, (blk_cell BK107.out 3).trans rfl⟩ (fun hHeld => ?_)
          clear hK K
          refine norm_ (a' := ?_) ?_ ?_
          rotate_left
          ·show Act.put _ (some 16) _ = _
           simp only [Act.put, List.setIfInBounds_toArray, List.set_cons_zero, List.set_cons_succ, i64_w, i32_w]
           rfl
          refine pure_ (i := 8) (N := some 17) (v := ?_) (a' := ?_) spec_EventText.d9 rfl rfl (any_of HT_.out (by kernel_rfl)) (fun _ _ _ h => h) (Or.inl ⟨by rfl, ?_⟩) ?_ ?_; rotate_left; (intro w'; go_simp; with_reducible rfl); rotate_left; (simp only [Act.put, List.setIfInBounds_toArray, List.set_cons_zero, List.set_cons_succ, i64_w, i32_w]; rfl)
          refine pure_ (i := 9) (N := some 4) (v := ?_) (a' := ?_) spec_EventText.d10 rfl rfl (any_of HT_.out (by kernel_rfl)) (fun _ _ _ h => h) (Or.inl ⟨by rfl, ?_⟩) ?_ ?_; rotate_left; (intro w'; go_simp; with_reducible rfl); rotate_left; (simp only [Act.put, List.setIfInBounds_toArray, List.set_cons_zero, List.set_cons_succ, i64_w, i32_w]; rfl)
          refine done_ (done_of HT_.out (by kernel_rfl)) ?_
          obtain ⟨hcz45_0, hcz45_1, hcz45_2, hcz45_3, hfz45_0, hfz45_1, hfz45_2, hfz45_3⟩ := bc4_ BK107.out
          try go_wp2
          go_ret
          exact ⟨ew_, hb_⟩
         ·rw [if_neg c38] at H
          exact absurd H (by simp)
        ·rw [if_neg c37] at H
         exact absurd H (by simp)
       ·rw [if_neg c36] at H
        have c36b0 : (a0_0 == 2) = false := beq_eq_false_iff_ne.mpr c36
        have c36b1 : (a0_0 != 2) = true := bne_iff_ne.mpr c36
        by_cases c46 : a0_0 = 3
        ·rw [if_pos c46] at H
         have c46b0 : (a0_0 == 3) = true := beq_iff_eq.mpr c46
         have c46b1 : (a0_0 != 3) = false := bne_eq_false_iff_eq.mpr c46
         clear c46
         by_cases c47 : (t108 ++ (⟨#[58, 32]⟩ : ByteArray)).size + 7 ≤ 9223372036854775807
         ·rw [if_pos c47] at H
          have c47n3 := c47
          try simp only [ByteArray.size_append, show (⟨#[58, 32]⟩ : ByteArray).size = 2 from rfl] at c47n3
          try have c47n4 := eq_true c47n3
          try have c47n5 := decide_eq_true c47n3
          try have c47n6 := eq_false (Nat.not_lt.2 c47n3)
          have c47b0 := eq_true c47
          have c47b1 : decide ((t108 ++ (⟨#[58, 32]⟩ : ByteArray)).size + 7 ≤ 9223372036854775807) = true := decide_eq_true c47
          try have c47b2 : (9223372036854775807 < (t108 ++ (⟨#[58, 32]⟩ : ByteArray)).size + 7) = False := eq_false (Nat.not_lt.2 c47)
          obtain rfl := Option.some.inj H
          go_enter Tryd.func7, Tryd.ntmps7
          try go_wp2_with (first | ((with_reducible refine gate_dst (N := 1) rfl ?_); refine be_ (N := 1) (cs := #[.int .i64 a0_0, .int .i64 a0_1, .int .i64 a0_2, .int .i64 a0_3]) (t := 25) ?_; intro gb107 hg w48 hbox hb; have BK107 := ak_ hbox; have GW107 := ak_ ((gs_ hg : w.heap.size ≤ gb107)); have GE107 := ak_ ((gs_ hg : w.heap.size ≤ gb107)); replace HB := ak_ (below_step hb_ hb); clear hb hbox hg; obtain ⟨hcz49_0, hcz49_1, hcz49_2, hcz49_3, hfz49_0, hfz49_1, hfz49_2, hfz49_3⟩ := bc4_ BK107.out) | ((with_reducible refine gate_callee (f := 24) rfl ?_); refine goesL_ (some 7) rfl rfl Tryd.func24 (by kernel_rfl) rfl #[.int .i64 a0_1] rfl (ma1_ rfl) ?_; (with_reducible refine (spec_l01Num.calls k a0_1 t108 _ A2.out).mono ?_); rintro e w50 ⟨rfl, hb⟩; refine ⟨_, rfl, ?_⟩; replace BK107 := ak_ (blk_below (bk_ BK107) hb); replace HB := ak_ (below_step hb_ hb); (try clear hb)))
          replace BK107 := ak_ (blk_drew BK107.out)
          replace HB := ak_ (below_drew1 HB.out)
          refine start_ (n := 10) (S := fun w' => w'.cell? ⟨gb107, 0, none⟩ = some (.int .i64 a0_0) ∧ w'.cell? ⟨gb107, 1, none⟩ = some (.int .i64 a0_1) ∧ w'.cell? ⟨gb107, 2, none⟩ = some (.int .i64 a0_2) ∧ w'.cell? ⟨gb107, 3, none⟩ = some (.int .i64 a0_3)) (ds := []) spec_EventText.d0 (by kernel_rfl) rfl rfl ⟨(blk_cell BK107.out 0).trans rfl, (blk_cell BK107.out 1).trans rfl, (blk_cell BK107.out 2).trans rfl, (blk_cell BK107.out 3).trans rfl⟩ (fun hHeld => ?_); refine with_tabW spec_EventText.tab2 spec_EventText.bits2 (fun HT_ HW_ => ?_)
          generalize w50.drew = w51 at BK107 HB hHeld ⊢
          refine pure_ (i := 0) (N := some 9) (v := ?_) (a' := ?_) spec_EventText.d1 rfl rfl (any_of HT_.out (by kernel_rfl)) (fun _ _ _ h => h) (Or.inl ⟨by rfl, ?_⟩) ?_ ?_; rotate_left; (intro w'; go_simp; with_reducible rfl); rotate_left; (simp only [Act.put, List.setIfInBounds_toArray, List.set_cons_zero, List.set_cons_succ, i64_w, i32_w]; rfl)
          refine pure_ (i := 5) (N := some 14) (v := ?_) (a' := ?_) spec_EventText.d2 rfl rfl (any_of HT_.out (by kernel_rfl)) (fun _ _ _ h => h) (Or.inl ⟨by rfl, ?_⟩) ?_ ?_; rotate_left; (intro w'; go_simp; with_reducible rfl); rotate_left; (simp only [Act.put, List.setIfInBounds_toArray, List.set_cons_zero, List.set_cons_succ, i64_w, i32_w]; rfl)
          refine take_ (i := 1) (N := some 10) (v := ?_) (a' := ?_) spec_EventText.d3 rfl rfl (take_ofW HT_.out HW_.out (by kernel_rfl)) (fun _ _ _ h => h) (Or.inl ⟨by rfl, ?_⟩) hHeld ?_ ?_; rotate_left; (rintro w' ⟨s0, s1, s2, s3⟩; go_simp; with_reducible rfl); rotate_left; (simp only [Act.put, List.setIfInBounds_toArray, List.set_cons_zero, List.set_cons_succ, i64_w, i32_w]; rfl)
          refine take_ (i := 6) (N := some 15) (v := ?_) (a' := ?_) spec_EventText.d4 rfl rfl (take_ofW HT_.out HW_.out (by kernel_rfl)) (fun _ _ _ h => h) (Or.inl ⟨by rfl, ?_⟩) hHeld ?_ ?_; rotate_left; (rintro w' ⟨s0, s1, s2, s3⟩; go_simp; with_reducible rfl); rotate_left; (simp only [Act.put, List.setIfInBounds_toArray, List.set_cons_zero, List.set_cons_succ, i64_w, i32_w]; rfl)
          refine one_ (i := 2) (N := some 11) spec_EventText.d5 rfl rfl (one_of HT_.out (by kernel_rfl)) (by decide) (fun K hK => ?_)
          refine goes_ Tryd.func24 (by kernel_rfl) rfl #[.int .i64 a0_2] (by rfl) rfl rfl (ma1_ rfl) ?_
          with_reducible refine (spec_l01Num.calls k a0_2 t109 _ A4.out).mono ?_
          rintro e w52 ⟨rfl, hb⟩
          refine ⟨_, rfl, ?_⟩
          replace BK107 := ak_ (blk_below (bk_ BK107) hb)
          replace HB := ak_ (below_step hb_ hb)
          (try clear hb)
          (try clear hb2)
          (try clear hk)
          (try clear hi)
          refine hK.out _ _ ⟨(blk_cell BK107.out 0).trans rfl, (blk_cell BK107.out 1).trans rfl, (blk_cell BK107.out 2).trans rfl, (blk_cell BK107.out 3).trans rfl⟩ (fun hHeld => ?_)
          clear hK K
          refine norm_ (a' := ?_) ?_ ?_
          rotate_left
          ·show Act.put _ (some 11) _ = _
           simp only [Act.put, List.setIfInBounds_toArray, List.set_cons_zero, List.set_cons_succ, i64_w, i32_w]
           rfl
          refine pure_ (i := 3) (N := some 12) (v := ?_) (a' := ?_) spec_EventText.d6 rfl rfl (any_of HT_.out (by kernel_rfl)) (fun _ _ _ h => h) (Or.inl ⟨by rfl, ?_⟩) ?_ ?_; rotate_left; (intro w'; go_simp; with_reducible rfl); rotate_left; (simp only [Act.put, List.setIfInBounds_toArray, List.set_cons_zero, List.set_cons_succ, i64_w, i32_w]; rfl)
          refine pure_ (i := 4) (N := some 13) (v := ?_) (a' := ?_) spec_EventText.d7 rfl rfl (any_of HT_.out (by kernel_rfl)) (fun _ _ _ h => h) (Or.inl ⟨by rfl, ?_⟩) ?_ ?_; rotate_left; (intro w'; go_simp; with_reducible rfl); rotate_left; (simp only [Act.put, List.setIfInBounds_toArray, List.set_cons_zero, List.set_cons_succ, i64_w, i32_w]; rfl)
          refine one_ (i := 7) (N := some 16) spec_EventText.d8 rfl rfl (one_of HT_.out (by kernel_rfl)) (by decide) (fun K hK => ?_)
          refine goes_ Tryd.func24 (by kernel_rfl) rfl #[.int .i64 a0_3] (by rfl) rfl rfl (ma1_ rfl) ?_
          with_reducible refine (spec_l01Num.calls k a0_3 t110 _ A7.out).mono ?_
          rintro e w53 ⟨rfl, hb⟩
          refine ⟨_, rfl, ?_⟩
          replace BK107 := ak_ (blk_below (bk_ BK107) hb)
          replace HB := ak_ (below_step hb_ hb)
          (try clear hb)
          (try clear hb2)
          (try clear hk)
          (try clear hi)
          refine hK.out _ _ ⟨(blk_cell BK107.out 0).trans rfl, (blk_cell BK107.out 1).trans rfl, (blk_cell BK107.out 2).trans rfl, (blk_cell BK107.out 3).trans rfl⟩ (fun hHeld => ?_)
          clear hK K
          refine norm_ (a' := ?_) ?_ ?_
          rotate_left
          ·show Act.put _ (some 16) _ = _
           simp only [Act.put, List.setIfInBounds_toArray, List.set_cons_zero, List.set_cons_succ, i64_w, i32_w]
           rfl
          refine pure_ (i := 8) (N := some 17) (v := ?_) (a' := ?_) spec_EventText.d9 rfl rfl (any_of HT_.out (by kernel_rfl)) (fun _ _ _ h => h) (Or.inl ⟨by rfl, ?_⟩) ?_ ?_; rotate_left; (intro w'; go_simp; with_reducible rfl); rotate_left; (simp only [Act.put, List.setIfInBounds_toArray, List.set_cons_zero, List.set_cons_succ, i64_w, i32_w]; rfl)
          refine pure_ (i := 9) (N := some 4) (v := ?_) (a' := ?_) spec_EventText.d10 rfl rfl (any_of HT_.out (by kernel_rfl)) (fun _ _ _ h => h) (Or.inl ⟨by rfl, ?_⟩) ?_ ?_; rotate_left; (intro w'; go_simp; with_reducible rfl); rotate_left; (simp only [Act.put, List.setIfInBounds_toArray, List.set_cons_zero, List.set_cons_succ, i64_w, i32_w]; rfl)
          refine done_ (done_of HT_.out (by kernel_rfl)) ?_
          obtain ⟨hcz54_0, hcz54_1, hcz54_2, hcz54_3, hfz54_0, hfz54_1, hfz54_2, hfz54_3⟩ := bc4_ BK107.out
          try go_wp2
          go_ret
          exact ⟨ew_, hb_⟩
         ·rw [if_neg c47] at H
          exact absurd H (by simp)
        ·rw [if_neg c46] at H
         have c46b0 : (a0_0 == 3) = false := beq_eq_false_iff_ne.mpr c46
         have c46b1 : (a0_0 != 3) = true := bne_iff_ne.mpr c46
         by_cases c55 : a0_0 = 4
         ·rw [if_pos c55] at H
          have c55b0 : (a0_0 == 4) = true := beq_iff_eq.mpr c55
          have c55b1 : (a0_0 != 4) = false := bne_eq_false_iff_eq.mpr c55
          clear c55
          by_cases c56 : (t108 ++ (⟨#[58, 32]⟩ : ByteArray)).size + 5 ≤ 9223372036854775807
          ·rw [if_pos c56] at H
           have c56n3 := c56
           try simp only [ByteArray.size_append, show (⟨#[58, 32]⟩ : ByteArray).size = 2 from rfl] at c56n3
           try have c56n4 := eq_true c56n3
           try have c56n5 := decide_eq_true c56n3
           try have c56n6 := eq_false (Nat.not_lt.2 c56n3)
           have c56b0 := eq_true c56
           have c56b1 : decide ((t108 ++ (⟨#[58, 32]⟩ : ByteArray)).size + 5 ≤ 9223372036854775807) = true := decide_eq_true c56
           try have c56b2 : (9223372036854775807 < (t108 ++ (⟨#[58, 32]⟩ : ByteArray)).size + 5) = False := eq_false (Nat.not_lt.2 c56)
           by_cases c57 : ((t108 ++ (⟨#[58, 32]⟩ : ByteArray)) ++ (⟨#[104, 97, 110, 100, 115]⟩ : ByteArray)).size + ((((⟨#[32]⟩ : ByteArray) ++ t109) ++ (⟨#[32, 116, 111, 32]⟩ : ByteArray)) ++ t110).size ≤ 9223372036854775807
           ·rw [if_pos c57] at H
            have c57n3 := c57
            try simp only [ByteArray.size_append, show (⟨#[104, 97, 110, 100, 115]⟩ : ByteArray).size = 5 from rfl, show (⟨#[32]⟩ : ByteArray).size = 1 from rfl, show (⟨#[32, 116, 111, 32]⟩ : ByteArray).size = 4 from rfl, show (⟨#[58, 32]⟩ : ByteArray).size = 2 from rfl] at c57n3
            try have c57n4 := eq_true c57n3
            try have c57n5 := decide_eq_true c57n3
            try have c57n6 := eq_false (Nat.not_lt.2 c57n3)
            have c57b0 := eq_true c57
            have c57b1 : decide (((t108 ++ (⟨#[58, 32]⟩ : ByteArray)) ++ (⟨#[104, 97, 110, 100, 115]⟩ : ByteArray)).size + ((((⟨#[32]⟩ : ByteArray) ++ t109) ++ (⟨#[32, 116, 111, 32]⟩ : ByteArray)) ++ t110).size ≤ 9223372036854775807) = true := decide_eq_true c57
            try have c57b2 : (9223372036854775807 < ((t108 ++ (⟨#[58, 32]⟩ : ByteArray)) ++ (⟨#[104, 97, 110, 100, 115]⟩ : ByteArray)).size + ((((⟨#[32]⟩ : ByteArray) ++ t109) ++ (⟨#[32, 116, 111, 32]⟩ : ByteArray)) ++ t110).size) = False := eq_false (Nat.not_lt.2 c57)
            obtain rfl := Option.some.inj H
            go_enter Tryd.func7, Tryd.ntmps7
            try go_wp2_with (first | ((with_reducible refine gate_dst (N := 1) rfl ?_); refine be_ (N := 1) (cs := #[.int .i64 a0_0, .int .i64 a0_1, .int .i64 a0_2, .int .i64 a0_3]) (t := 25) ?_; intro gb107 hg w58 hbox hb; have BK107 := ak_ hbox; have GW107 := ak_ ((gs_ hg : w.heap.size ≤ gb107)); have GE107 := ak_ ((gs_ hg : w.heap.size ≤ gb107)); replace HB := ak_ (below_step hb_ hb); clear hb hbox hg; obtain ⟨hcz59_0, hcz59_1, hcz59_2, hcz59_3, hfz59_0, hfz59_1, hfz59_2, hfz59_3⟩ := bc4_ BK107.out) | ((with_reducible refine gate_callee (f := 24) rfl ?_); refine goesL_ (some 7) rfl rfl Tryd.func24 (by kernel_rfl) rfl #[.int .i64 a0_1] rfl (ma1_ rfl) ?_; (with_reducible refine (spec_l01Num.calls k a0_1 t108 _ A2.out).mono ?_); rintro e w60 ⟨rfl, hb⟩; refine ⟨_, rfl, ?_⟩; replace BK107 := ak_ (blk_below (bk_ BK107) hb); replace HB := ak_ (below_step hb_ hb); (try clear hb)))
            replace BK107 := ak_ (blk_drew BK107.out)
            replace HB := ak_ (below_drew1 HB.out)
            refine start_ (n := 10) (S := fun w' => w'.cell? ⟨gb107, 0, none⟩ = some (.int .i64 a0_0) ∧ w'.cell? ⟨gb107, 1, none⟩ = some (.int .i64 a0_1) ∧ w'.cell? ⟨gb107, 2, none⟩ = some (.int .i64 a0_2) ∧ w'.cell? ⟨gb107, 3, none⟩ = some (.int .i64 a0_3)) (ds := []) spec_EventText.d0 (by kernel_rfl) rfl rfl ⟨(blk_cell BK107.out 0).trans rfl, (blk_cell BK107.out 1).trans rfl, (blk_cell BK107.out 2).trans rfl, (blk_cell BK107.out 3).trans rfl⟩ (fun hHeld => ?_); refine with_tabW spec_EventText.tab2 spec_EventText.bits2 (fun HT_ HW_ => ?_)
            generalize w60.drew = w61 at BK107 HB hHeld ⊢
            refine pure_ (i := 0) (N := some 9) (v := ?_) (a' := ?_) spec_EventText.d1 rfl rfl (any_of HT_.out (by kernel_rfl)) (fun _ _ _ h => h) (Or.inl ⟨by rfl, ?_⟩) ?_ ?_; rotate_left; (intro w'; go_simp; with_reducible rfl); rotate_left; (simp only [Act.put, List.setIfInBounds_toArray, List.set_cons_zero, List.set_cons_succ, i64_w, i32_w]; rfl)
            refine pure_ (i := 5) (N := some 14) (v := ?_) (a' := ?_) spec_EventText.d2 rfl rfl (any_of HT_.out (by kernel_rfl)) (fun _ _ _ h => h) (Or.inl ⟨by rfl, ?_⟩) ?_ ?_; rotate_left; (intro w'; go_simp; with_reducible rfl); rotate_left; (simp only [Act.put, List.setIfInBounds_toArray, List.set_cons_zero, List.set_cons_succ, i64_w, i32_w]; rfl)
            refine take_ (i := 1) (N := some 10) (v := ?_) (a' := ?_) spec_EventText.d3 rfl rfl (take_ofW HT_.out HW_.out (by kernel_rfl)) (fun _ _ _ h => h) (Or.inl ⟨by rfl, ?_⟩) hHeld ?_ ?_; rotate_left; (rintro w' ⟨s0, s1, s2, s3⟩; go_simp; with_reducible rfl); rotate_left; (simp only [Act.put, List.setIfInBounds_toArray, List.set_cons_zero, List.set_cons_succ, i64_w, i32_w]; rfl)
            refine take_ (i := 6) (N := some 15) (v := ?_) (a' := ?_) spec_EventText.d4 rfl rfl (take_ofW HT_.out HW_.out (by kernel_rfl)) (fun _ _ _ h => h) (Or.inl ⟨by rfl, ?_⟩) hHeld ?_ ?_; rotate_left; (rintro w' ⟨s0, s1, s2, s3⟩; go_simp; with_reducible rfl); rotate_left; (simp only [Act.put, List.setIfInBounds_toArray, List.set_cons_zero, List.set_cons_succ, i64_w, i32_w]; rfl)
            refine one_ (i := 2) (N := some 11) spec_EventText.d5 rfl rfl (one_of HT_.out (by kernel_rfl)) (by decide) (fun K hK => ?_)
            refine goes_ Tryd.func24 (by kernel_rfl) rfl #[.int .i64 a0_2] (by rfl) rfl rfl (ma1_ rfl) ?_
            with_reducible refine (spec_l01Num.calls k a0_2 t109 _ A4.out).mono ?_
            rintro e w62 ⟨rfl, hb⟩
            refine ⟨_, rfl, ?_⟩
            replace BK107 := ak_ (blk_below (bk_ BK107) hb)
            replace HB := ak_ (below_step hb_ hb)
            (try clear hb)
            (try clear hb2)
            (try clear hk)
            (try clear hi)
            refine hK.out _ _ ⟨(blk_cell BK107.out 0).trans rfl, (blk_cell BK107.out 1).trans rfl, (blk_cell BK107.out 2).trans rfl, (blk_cell BK107.out 3).trans rfl⟩ (fun hHeld => ?_)
            clear hK K
            refine norm_ (a' := ?_) ?_ ?_
            rotate_left
            ·show Act.put _ (some 11) _ = _
             simp only [Act.put, List.setIfInBounds_toArray, List.set_cons_zero, List.set_cons_succ, i64_w, i32_w]
             rfl
            refine pure_ (i := 3) (N := some 12) (v := ?_) (a' := ?_) spec_EventText.d6 rfl rfl (any_of HT_.out (by kernel_rfl)) (fun _ _ _ h => h) (Or.inl ⟨by rfl, ?_⟩) ?_ ?_; rotate_left; (intro w'; go_simp; with_reducible rfl); rotate_left; (simp only [Act.put, List.setIfInBounds_toArray, List.set_cons_zero, List.set_cons_succ, i64_w, i32_w]; rfl)
            refine pure_ (i := 4) (N := some 13) (v := ?_) (a' := ?_) spec_EventText.d7 rfl rfl (any_of HT_.out (by kernel_rfl)) (fun _ _ _ h => h) (Or.inl ⟨by rfl, ?_⟩) ?_ ?_; rotate_left; (intro w'; go_simp; with_reducible rfl); rotate_left; (simp only [Act.put, List.setIfInBounds_toArray, List.set_cons_zero, List.set_cons_succ, i64_w, i32_w]; rfl)
            refine one_ (i := 7) (N := some 16) spec_EventText.d8 rfl rfl (one_of HT_.out (by kernel_rfl)) (by decide) (fun K hK => ?_)
            refine goes_ Tryd.func24 (by kernel_rfl) rfl #[.int .i64 a0_3] (by rfl) rfl rfl (ma1_ rfl) ?_
            with_reducible refine (spec_l01Num.calls k a0_3 t110 _ A7.out).mono ?_
            rintro e w63 ⟨rfl, hb⟩
            refine ⟨_, rfl, ?_⟩
            replace BK107 := ak_ (blk_below (bk_ BK107) hb)
            replace HB := ak_ (below_step hb_ hb)
            (try clear hb)
            (try clear hb2)
            (try clear hk)
            (try clear hi)
            refine hK.out _ _ ⟨(blk_cell BK107.out 0).trans rfl, (blk_cell BK107.out 1).trans rfl, (blk_cell BK107.out 2).trans rfl, (blk_cell BK107.out 3).trans rfl⟩ (fun hHeld => ?_)
            clear hK K
            refine norm_ (a' := ?_) ?_ ?_
            rotate_left
            ·show Act.put _ (some 16) _ = _
             simp only [Act.put, List.setIfInBounds_toArray, List.set_cons_zero, List.set_cons_succ, i64_w, i32_w]
             rfl
            refine pure_ (i := 8) (N := some 17) (v := ?_) (a' := ?_) spec_EventText.d9 rfl rfl (any_of HT_.out (by kernel_rfl)) (fun _ _ _ h => h) (Or.inl ⟨by rfl, ?_⟩) ?_ ?_; rotate_left; (intro w'; go_simp; with_reducible rfl); rotate_left; (simp only [Act.put, List.setIfInBounds_toArray, List.set_cons_zero, List.set_cons_succ, i64_w, i32_w]; rfl)
            refine pure_ (i := 9) (N := some 4) (v := ?_) (a' := ?_) spec_EventText.d10 rfl rfl (any_of HT_.out (by kernel_rfl)) (fun _ _ _ h => h) (Or.inl ⟨by rfl, ?_⟩) ?_ ?_; rotate_left; (intro w'; go_simp; with_reducible rfl); rotate_left; (simp only [Act.put, List.setIfInBounds_toArray, List.set_cons_zero, List.set_cons_succ, i64_w, i32_w]; rfl)
            refine done_ (done_of HT_.out (by kernel_rfl)) ?_
            obtain ⟨hcz64_0, hcz64_1, hcz64_2, hcz64_3, hfz64_0, hfz64_1, hfz64_2, hfz64_3⟩ := bc4_ BK107.out
            try go_wp2
            go_ret
            exact ⟨ew_, hb_⟩
           ·rw [if_neg c57] at H
            exact absurd H (by simp)
          ·rw [if_neg c56] at H
           exact absurd H (by simp)
         ·rw [if_neg c55] at H
          have c55b0 : (a0_0 == 4) = false := beq_eq_false_iff_ne.mpr c55
          have c55b1 : (a0_0 != 4) = true := bne_iff_ne.mpr c55
          obtain rfl := Option.some.inj H
          go_enter Tryd.func7, Tryd.ntmps7
          try go_wp2_with (first | ((with_reducible refine gate_dst (N := 1) rfl ?_); refine be_ (N := 1) (cs := #[.int .i64 a0_0, .int .i64 a0_1, .int .i64 a0_2, .int .i64 a0_3]) (t := 25) ?_; intro gb107 hg w65 hbox hb; have BK107 := ak_ hbox; have GW107 := ak_ ((gs_ hg : w.heap.size ≤ gb107)); have GE107 := ak_ ((gs_ hg : w.heap.size ≤ gb107)); replace HB := ak_ (below_step hb_ hb); clear hb hbox hg; obtain ⟨hcz66_0, hcz66_1, hcz66_2, hcz66_3, hfz66_0, hfz66_1, hfz66_2, hfz66_3⟩ := bc4_ BK107.out) | ((with_reducible refine gate_callee (f := 24) rfl ?_); refine goesL_ (some 7) rfl rfl Tryd.func24 (by kernel_rfl) rfl #[.int .i64 a0_1] rfl (ma1_ rfl) ?_; (with_reducible refine (spec_l01Num.calls k a0_1 t108 _ A2.out).mono ?_); rintro e w67 ⟨rfl, hb⟩; refine ⟨_, rfl, ?_⟩; replace BK107 := ak_ (blk_below (bk_ BK107) hb); replace HB := ak_ (below_step hb_ hb); (try clear hb)))
          replace BK107 := ak_ (blk_drew BK107.out)
          replace HB := ak_ (below_drew1 HB.out)
          refine start_ (n := 10) (S := fun w' => w'.cell? ⟨gb107, 0, none⟩ = some (.int .i64 a0_0) ∧ w'.cell? ⟨gb107, 1, none⟩ = some (.int .i64 a0_1) ∧ w'.cell? ⟨gb107, 2, none⟩ = some (.int .i64 a0_2) ∧ w'.cell? ⟨gb107, 3, none⟩ = some (.int .i64 a0_3)) (ds := []) spec_EventText.d0 (by kernel_rfl) rfl rfl ⟨(blk_cell BK107.out 0).trans rfl, (blk_cell BK107.out 1).trans rfl, (blk_cell BK107.out 2).trans rfl, (blk_cell BK107.out 3).trans rfl⟩ (fun hHeld => ?_); refine with_tabW spec_EventText.tab2 spec_EventText.bits2 (fun HT_ HW_ => ?_)
          generalize w67.drew = w68 at BK107 HB hHeld ⊢
          refine pure_ (i := 0) (N := some 9) (v := ?_) (a' := ?_) spec_EventText.d1 rfl rfl (any_of HT_.out (by kernel_rfl)) (fun _ _ _ h => h) (Or.inl ⟨by rfl, ?_⟩) ?_ ?_; rotate_left; (intro w'; go_simp; with_reducible rfl); rotate_left; (simp only [Act.put, List.setIfInBounds_toArray, List.set_cons_zero, List.set_cons_succ, i64_w, i32_w]; rfl)
          refine pure_ (i := 5) (N := some 14) (v := ?_) (a' := ?_) spec_EventText.d2 rfl rfl (any_of HT_.out (by kernel_rfl)) (fun _ _ _ h => h) (Or.inl ⟨by rfl, ?_⟩) ?_ ?_; rotate_left; (intro w'; go_simp; with_reducible rfl); rotate_left; (simp only [Act.put, List.setIfInBounds_toArray, List.set_cons_zero, List.set_cons_succ, i64_w, i32_w]; rfl)
          refine take_ (i := 1) (N := some 10) (v := ?_) (a' := ?_) spec_EventText.d3 rfl rfl (take_ofW HT_.out HW_.out (by kernel_rfl)) (fun _ _ _ h => h) (Or.inl ⟨by rfl, ?_⟩) hHeld ?_ ?_; rotate_left; (rintro w' ⟨s0, s1, s2, s3⟩; go_simp; with_reducible rfl); rotate_left; (simp only [Act.put, List.setIfInBounds_toArray, List.set_cons_zero, List.set_cons_succ, i64_w, i32_w]; rfl)
          refine take_ (i := 6) (N := some 15) (v := ?_) (a' := ?_) spec_EventText.d4 rfl rfl (take_ofW HT_.out HW_.out (by kernel_rfl)) (fun _ _ _ h => h) (Or.inl ⟨by rfl, ?_⟩) hHeld ?_ ?_; rotate_left; (rintro w' ⟨s0, s1, s2, s3⟩; go_simp; with_reducible rfl); rotate_left; (simp only [Act.put, List.setIfInBounds_toArray, List.set_cons_zero, List.set_cons_succ, i64_w, i32_w]; rfl)
          refine one_ (i := 2) (N := some 11) spec_EventText.d5 rfl rfl (one_of HT_.out (by kernel_rfl)) (by decide) (fun K hK => ?_)
          refine goes_ Tryd.func24 (by kernel_rfl) rfl #[.int .i64 a0_2] (by rfl) rfl rfl (ma1_ rfl) ?_
          with_reducible refine (spec_l01Num.calls k a0_2 t109 _ A4.out).mono ?_
          rintro e w69 ⟨rfl, hb⟩
          refine ⟨_, rfl, ?_⟩
          replace BK107 := ak_ (blk_below (bk_ BK107) hb)
          replace HB := ak_ (below_step hb_ hb)
          (try clear hb)
          (try clear hb2)
          (try clear hk)
          (try clear hi)
          refine hK.out _ _ ⟨(blk_cell BK107.out 0).trans rfl, (blk_cell BK107.out 1).trans rfl, (blk_cell BK107.out 2).trans rfl, (blk_cell BK107.out 3).trans rfl⟩ (fun hHeld => ?_)
          clear hK K
          refine norm_ (a' := ?_) ?_ ?_
          rotate_left
          ·show Act.put _ (some 11) _ = _
           simp only [Act.put, List.setIfInBounds_toArray, List.set_cons_zero, List.set_cons_succ, i64_w, i32_w]
           rfl
          refine pure_ (i := 3) (N := some 12) (v := ?_) (a' := ?_) spec_EventText.d6 rfl rfl (any_of HT_.out (by kernel_rfl)) (fun _ _ _ h => h) (Or.inl ⟨by rfl, ?_⟩) ?_ ?_; rotate_left; (intro w'; go_simp; with_reducible rfl); rotate_left; (simp only [Act.put, List.setIfInBounds_toArray, List.set_cons_zero, List.set_cons_succ, i64_w, i32_w]; rfl)
          refine pure_ (i := 4) (N := some 13) (v := ?_) (a' := ?_) spec_EventText.d7 rfl rfl (any_of HT_.out (by kernel_rfl)) (fun _ _ _ h => h) (Or.inl ⟨by rfl, ?_⟩) ?_ ?_; rotate_left; (intro w'; go_simp; with_reducible rfl); rotate_left; (simp only [Act.put, List.setIfInBounds_toArray, List.set_cons_zero, List.set_cons_succ, i64_w, i32_w]; rfl)
          refine one_ (i := 7) (N := some 16) spec_EventText.d8 rfl rfl (one_of HT_.out (by kernel_rfl)) (by decide) (fun K hK => ?_)
          refine goes_ Tryd.func24 (by kernel_rfl) rfl #[.int .i64 a0_3] (by rfl) rfl rfl (ma1_ rfl) ?_
          with_reducible refine (spec_l01Num.calls k a0_3 t110 _ A7.out).mono ?_
          rintro e w70 ⟨rfl, hb⟩
          refine ⟨_, rfl, ?_⟩
          replace BK107 := ak_ (blk_below (bk_ BK107) hb)
          replace HB := ak_ (below_step hb_ hb)
          (try clear hb)
          (try clear hb2)
          (try clear hk)
          (try clear hi)
          refine hK.out _ _ ⟨(blk_cell BK107.out 0).trans rfl, (blk_cell BK107.out 1).trans rfl, (blk_cell BK107.out 2).trans rfl, (blk_cell BK107.out 3).trans rfl⟩ (fun hHeld => ?_)
          clear hK K
          refine norm_ (a' := ?_) ?_ ?_
          rotate_left
          ·show Act.put _ (some 16) _ = _
           simp only [Act.put, List.setIfInBounds_toArray, List.set_cons_zero, List.set_cons_succ, i64_w, i32_w]
           rfl
          refine pure_ (i := 8) (N := some 17) (v := ?_) (a' := ?_) spec_EventText.d9 rfl rfl (any_of HT_.out (by kernel_rfl)) (fun _ _ _ h => h) (Or.inl ⟨by rfl, ?_⟩) ?_ ?_; rotate_left; (intro w'; go_simp; with_reducible rfl); rotate_left; (simp only [Act.put, List.setIfInBounds_toArray, List.set_cons_zero, List.set_cons_succ, i64_w, i32_w]; rfl)
          refine pure_ (i := 9) (N := some 4) (v := ?_) (a' := ?_) spec_EventText.d10 rfl rfl (any_of HT_.out (by kernel_rfl)) (fun _ _ _ h => h) (Or.inl ⟨by rfl, ?_⟩) ?_ ?_; rotate_left; (intro w'; go_simp; with_reducible rfl); rotate_left; (simp only [Act.put, List.setIfInBounds_toArray, List.set_cons_zero, List.set_cons_succ, i64_w, i32_w]; rfl)
          refine done_ (done_of HT_.out (by kernel_rfl)) ?_
          obtain ⟨hcz71_0, hcz71_1, hcz71_2, hcz71_3, hfz71_0, hfz71_1, hfz71_2, hfz71_3⟩ := bc4_ BK107.out
          try go_wp2
          go_ret
          exact ⟨ew_, hb_⟩
    ·rw [if_neg c8] at H
     exact absurd H (by simp)
   ·rw [if_neg c6] at H
    exact absurd H (by simp)
  ·rw [if_neg c5] at H
   exact absurd H (by simp)
 ·rw [if_neg c3] at H
  exact absurd H (by simp)

end Go.Proofs.YtblfoelddakelaaDoor.U
