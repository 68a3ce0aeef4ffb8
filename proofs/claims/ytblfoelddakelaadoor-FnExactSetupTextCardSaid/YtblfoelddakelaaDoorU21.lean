-- PRINTED by print.py (a twelfth state) out of the translation. Not trusted: Lean checks it.
import Derived.Test.YtblfoelddakelaaDoorU0
import Derived.Test.YtblfoelddakelaaDoorU1
import Derived.Test.YtblfoelddakelaaDoorU7
import Derived.Test.YtblfoelddakelaaDoorU17
import Derived.Test.YtblfoelddakelaaDoorU20
namespace Go.Proofs.YtblfoelddakelaaDoor.U
open Go.RowKit Go.Proofs.YtblfoelddakelaaDoorW.PrintWords Go.Proofs.YtblfoelddakelaaDoorW.PrintLast Go.Proofs.YtblfoelddakelaaDoorW.PrintMore
attribute [local go_sem] max2_int min2_int max_two min_two max_three min_three max_four min_four   -- for this text's walks alone
set_option linter.unusedVariables false
set_option linter.unusedSimpArgs false

/-! ### spec_SetupText: function 16 -/
def spec_SetupText.l0 : Nat → ByteArray → Int → Int → Int → Int → List (S75) → List (S67) → Int → Int → List (S67) → Int → Int → Int → Int → Option (ByteArray × Bool)
  | 0, _, _, _, _, _, _, _, _, _, _, _, _, _, _ => none
  | k + 1, x4, x5, x280000, x280001, x280002, x280003, x280004, x280005, x280006, x280007, x280008, x280009, x280010, x280011 => if x5 < (x280003.length : Int) then (if x4.size + 5 ≤ 9223372036854775807 then (if 0 ≤ x5 then ((spec_GoalLine.f k ((rd_T75 x280003 x5).f0) ((rd_T75 x280003 x5).f1) ((rd_T75 x280003 x5).f2)).bind fun t285 => (if (x4 ++ (⟨#[103, 111, 97, 108, 32]⟩ : ByteArray)).size + t285.size ≤ 9223372036854775807 then (if ((x4 ++ (⟨#[103, 111, 97, 108, 32]⟩ : ByteArray)) ++ t285).size + 1 ≤ 9223372036854775807 then (spec_SetupText.l0 k (((x4 ++ (⟨#[103, 111, 97, 108, 32]⟩ : ByteArray)) ++ t285) ++ (⟨#[10]⟩ : ByteArray)) (wrap64 (x5 + 1)) x280000 x280001 x280002 x280003 x280004 x280005 x280006 x280007 x280008 x280009 x280010 x280011) else (none)) else (none))) else (none)) else (none)) else (if x4.size + 6 ≤ 9223372036854775807 then ((spec_l01Num.f k x280010).bind fun t287 => (if (x4 ++ (⟨#[99, 111, 117, 110, 116, 32]⟩ : ByteArray)).size + t287.size ≤ 9223372036854775807 then (if ((x4 ++ (⟨#[99, 111, 117, 110, 116, 32]⟩ : ByteArray)) ++ t287).size + 1 ≤ 9223372036854775807 then ((spec_l01Num.f k x280011).bind fun t288 => (if (((x4 ++ (⟨#[99, 111, 117, 110, 116, 32]⟩ : ByteArray)) ++ t287) ++ (⟨#[32]⟩ : ByteArray)).size + t288.size ≤ 9223372036854775807 then (if ((((x4 ++ (⟨#[99, 111, 117, 110, 116, 32]⟩ : ByteArray)) ++ t287) ++ (⟨#[32]⟩ : ByteArray)) ++ t288).size + 4 ≤ 9223372036854775807 then ((spec_SideText.f k x280004 x280005 x280006).bind fun t289 => (if (((((x4 ++ (⟨#[99, 111, 117, 110, 116, 32]⟩ : ByteArray)) ++ t287) ++ (⟨#[32]⟩ : ByteArray)) ++ t288) ++ (⟨#[10, 117, 112, 32]⟩ : ByteArray)).size + t289.size ≤ 9223372036854775807 then (if ((((((x4 ++ (⟨#[99, 111, 117, 110, 116, 32]⟩ : ByteArray)) ++ t287) ++ (⟨#[32]⟩ : ByteArray)) ++ t288) ++ (⟨#[10, 117, 112, 32]⟩ : ByteArray)) ++ t289).size + 6 ≤ 9223372036854775807 then ((spec_SideText.f k x280007 x280008 x280009).bind fun t290 => (if (((((((x4 ++ (⟨#[99, 111, 117, 110, 116, 32]⟩ : ByteArray)) ++ t287) ++ (⟨#[32]⟩ : ByteArray)) ++ t288) ++ (⟨#[10, 117, 112, 32]⟩ : ByteArray)) ++ t289) ++ (⟨#[10, 100, 111, 119, 110, 32]⟩ : ByteArray)).size + t290.size ≤ 9223372036854775807 then (if ((((((((x4 ++ (⟨#[99, 111, 117, 110, 116, 32]⟩ : ByteArray)) ++ t287) ++ (⟨#[32]⟩ : ByteArray)) ++ t288) ++ (⟨#[10, 117, 112, 32]⟩ : ByteArray)) ++ t289) ++ (⟨#[10, 100, 111, 119, 110, 32]⟩ : ByteArray)) ++ t290).size + 1 ≤ 9223372036854775807 then (some (((((((((x4 ++ (⟨#[99, 111, 117, 110, 116, 32]⟩ : ByteArray)) ++ t287) ++ (⟨#[32]⟩ : ByteArray)) ++ t288) ++ (⟨#[10, 117, 112, 32]⟩ : ByteArray)) ++ t289) ++ (⟨#[10, 100, 111, 119, 110, 32]⟩ : ByteArray)) ++ t290) ++ (⟨#[10]⟩ : ByteArray), true)) else (none)) else (none))) else (none)) else (none))) else (none)) else (none))) else (none)) else (none))) else (none))
def spec_SetupText.f (k : Nat) (a0_0 : Int) (a0_1 : Int) (a0_2 : Int) (l0_3 : List (S75)) (l0_4 : List (S67)) (a0_5 : Int) (a0_6 : Int) (l0_7 : List (S67)) (a0_8 : Int) (a0_9 : Int) (a0_10 : Int) (a0_11 : Int) : Option (ByteArray × Bool) := (spec_SetupOk.f k a0_0 a0_1 a0_2 l0_3 l0_4 a0_5 a0_6 l0_7 a0_8 a0_9 a0_10 a0_11).bind fun t280 => (if t280 = true then ((spec_l01Num.f k a0_0).bind fun t281 => (if 6 + t281.size ≤ 9223372036854775807 then (if ((⟨#[114, 117, 108, 101, 115, 32]⟩ : ByteArray) ++ t281).size + 1 ≤ 9223372036854775807 then ((spec_l01Num.f k a0_1).bind fun t282 => (if (((⟨#[114, 117, 108, 101, 115, 32]⟩ : ByteArray) ++ t281) ++ (⟨#[32]⟩ : ByteArray)).size + t282.size ≤ 9223372036854775807 then (if ((((⟨#[114, 117, 108, 101, 115, 32]⟩ : ByteArray) ++ t281) ++ (⟨#[32]⟩ : ByteArray)) ++ t282).size + 1 ≤ 9223372036854775807 then ((spec_l01Num.f k a0_2).bind fun t283 => (if (((((⟨#[114, 117, 108, 101, 115, 32]⟩ : ByteArray) ++ t281) ++ (⟨#[32]⟩ : ByteArray)) ++ t282) ++ (⟨#[32]⟩ : ByteArray)).size + t283.size ≤ 9223372036854775807 then (if ((((((⟨#[114, 117, 108, 101, 115, 32]⟩ : ByteArray) ++ t281) ++ (⟨#[32]⟩ : ByteArray)) ++ t282) ++ (⟨#[32]⟩ : ByteArray)) ++ t283).size + 1 ≤ 9223372036854775807 then (spec_SetupText.l0 k (((((((⟨#[114, 117, 108, 101, 115, 32]⟩ : ByteArray) ++ t281) ++ (⟨#[32]⟩ : ByteArray)) ++ t282) ++ (⟨#[32]⟩ : ByteArray)) ++ t283) ++ (⟨#[10]⟩ : ByteArray)) 0 a0_0 a0_1 a0_2 l0_3 l0_4 a0_5 a0_6 l0_7 a0_8 a0_9 a0_10 a0_11) else (none)) else (none))) else (none)) else (none))) else (none)) else (none))) else (some ((⟨#[]⟩ : ByteArray), false)))
theorem spec_SetupText.mono_l : ∀ k, (∀ y0 y1 y2 y3 y4 y5 y6 y7 y8 y9 y10 y11 y12 y13, LeO (spec_SetupText.l0 k y0 y1 y2 y3 y4 y5 y6 y7 y8 y9 y10 y11 y12 y13) (spec_SetupText.l0 (k + 1) y0 y1 y2 y3 y4 y5 y6 y7 y8 y9 y10 y11 y12 y13))
  | 0 => fun _ _ _ _ _ _ _ _ _ _ _ _ _ _ r h => by simp [spec_SetupText.l0] at h
  | k + 1 => by
    have ih0 := spec_SetupText.mono_l k
    · intro y0 y1 y2 y3 y4 y5 y6 y7 y8 y9 y10 y11 y12 y13
      unfold spec_SetupText.l0
      repeat' with_reducible first | exact ih0 _ _ _ _ _ _ _ _ _ _ _ _ _ _ | exact spec_GoalLine.mono _ _ _ _ | exact spec_SetupOk.mono _ _ _ _ _ _ _ _ _ _ _ _ _ | exact spec_SideText.mono _ _ _ _ | exact spec_l01Num.mono _ _ | exact LeO.refl _ | exact LeO.none _ | refine LeO.ite ?_ ?_ | refine LeO.bind ?_ (fun _ => ?_)
theorem spec_SetupText.mono : ∀ a0 a1 a2 a3 a4 a5 a6 a7 a8 a9 a10 a11 k, LeO (spec_SetupText.f k a0 a1 a2 a3 a4 a5 a6 a7 a8 a9 a10 a11) (spec_SetupText.f (k + 1) a0 a1 a2 a3 a4 a5 a6 a7 a8 a9 a10 a11) := by
  intro a0 a1 a2 a3 a4 a5 a6 a7 a8 a9 a10 a11 k
  have ih0 := spec_SetupText.mono_l k
  unfold spec_SetupText.f
  repeat' with_reducible first | exact ih0 _ _ _ _ _ _ _ _ _ _ _ _ _ _ | exact spec_GoalLine.mono _ _ _ _ | exact spec_SetupOk.mono _ _ _ _ _ _ _ _ _ _ _ _ _ | exact spec_SideText.mono _ _ _ _ | exact spec_l01Num.mono _ _ | exact LeO.refl _ | exact LeO.none _ | refine LeO.ite ?_ ?_ | refine LeO.bind ?_ (fun _ => ?_)
def spec_SetupText.T3 : Bool × List (List Nat × List Nat) := (true, [([], []), ([0], [0]), ([1], [1]), ([2], [2]), ([3], [3]), ([4], [4]), ([], []), ([6], [6]), ([7], [7]), ([8, 3], [8]), ([5, 9], [5, 9]), ([10], [10]), ([], []), ([12], [12]), ([13], [13]), ([14, 9], [14]), ([11, 15], [11, 15]), ([16], [16]), ([17, 15, 0, 1, 2, 3, 4, 5, 6, 7, 8, 9, 10, 11, 12, 13, 14, 15, 16, 17], [17])])
def spec_SetupText.B3 : List Nat := [0, 1, 3, 7, 15, 31, 0, 64, 192, 463, 1023, 2047, 0, 4096, 12288, 29647, 65535, 131071, 262143]
theorem spec_SetupText.tab3 : rtab .any (opsOf Tryd.f16 3) = spec_SetupText.T3 := by kernel_rfl
theorem spec_SetupText.bits3 : waitsOk spec_SetupText.T3.2 spec_SetupText.B3 = true := by kernel_rfl
def spec_SetupText.T9 : Bool × List (List Nat × List Nat) := (true, [([], []), ([0], [0]), ([], []), ([2], [2]), ([3], [3]), ([1, 4], [1, 4]), ([5], [5]), ([], []), ([7], [7]), ([8, 4], [8]), ([6, 9], [6, 9]), ([10], [10]), ([], []), ([12], [12]), ([13, 9], [13]), ([11, 14], [11, 14]), ([15], [15]), ([], []), ([17], [17]), ([18, 14], [18]), ([16, 19], [16, 19]), ([20], [20]), ([21, 19, 0, 1, 2, 3, 4, 5, 6, 7, 8, 9, 10, 11, 12, 13, 14, 15, 16, 17, 18, 19, 20, 21], [21]), ([22, 0, 1, 2, 3, 4, 5, 6, 7, 8, 9, 10, 11, 12, 13, 14, 15, 16, 17, 18, 19, 20, 21, 22], [])])
def spec_SetupText.B9 : List Nat := [0, 1, 0, 4, 12, 31, 63, 0, 128, 412, 1023, 2047, 0, 4096, 13212, 32767, 65535, 0, 131072, 422812, 1048575, 2097151, 4194303, 8388607]
theorem spec_SetupText.tab9 : rtab .any (opsOf Tryd.f16 9) = spec_SetupText.T9 := by kernel_rfl
theorem spec_SetupText.bits9 : waitsOk spec_SetupText.T9.2 spec_SetupText.B9 = true := by kernel_rfl
set_option maxHeartbeats 8000000 in
set_option maxRecDepth 100000 in
theorem spec_SetupText.calls (k : Nat) (a0_0 : Int) (a0_1 : Int) (a0_2 : Int) (A0_3 : Option Addr) (c0_3 : Nat) (l0_3 : List (S75)) (A0_4 : Option Addr) (c0_4 : Nat) (l0_4 : List (S67)) (a0_5 : Int) (a0_6 : Int) (A0_7 : Option Addr) (c0_7 : Nat) (l0_7 : List (S67)) (a0_8 : Int) (a0_9 : Int) (a0_10 : Int) (a0_11 : Int) (r1 : ByteArray) (r2 : Bool) (w : World) (hr0_3 : Kd.C k75 w A0_3 l0_3.length l0_3) (hc0_3 : l0_3.length ≤ c0_3) (hr0_4 : Kd.C k67 w A0_4 l0_4.length l0_4) (hc0_4 : l0_4.length ≤ c0_4) (hr0_7 : Kd.C k67 w A0_7 l0_7.length l0_7) (hc0_7 : l0_7.length ≤ c0_7) (h : spec_SetupText.f k a0_0 a0_1 a0_2 l0_3 l0_4 a0_5 a0_6 l0_7 a0_8 a0_9 a0_10 a0_11 = some (r1, r2)) :
  Calls Tryd.prog 16 #[.agg #[.int .i64 a0_0, .int .i64 a0_1, .int .i64 a0_2, .slice A0_3 l0_3.length c0_3, .slice A0_4 l0_4.length c0_4, .int .i64 a0_5, .int .i64 a0_6, .slice A0_7 l0_7.length c0_7, .int .i64 a0_8, .int .i64 a0_9, .int .i64 a0_10, .int .i64 a0_11]] w fun e w' => e = .returned (.tuple #[.string r1, .bool r2]) ∧ Below w.heap.size w w' := by
 have hu54 := Tryd.underlying54
 have hu75 := Tryd.underlying75
 have hu52 := Tryd.underlying52
 have hu35 := Tryd.underlying35
 have HR0_3 := Aside0.mk hr0_3
 have HC0_3 := Aside0.mk hc0_3
 clear hr0_3 hc0_3
 have HR0_4 := Aside0.mk hr0_4
 have HC0_4 := Aside0.mk hc0_4
 clear hr0_4 hc0_4
 have HR0_7 := Aside0.mk hr0_7
 have HC0_7 := Aside0.mk hc0_7
 clear hr0_7 hc0_7
 have HB := Aside0.mk (Below.refl w.heap.size w)
 have H : ((spec_SetupOk.f k a0_0 a0_1 a0_2 l0_3 l0_4 a0_5 a0_6 l0_7 a0_8 a0_9 a0_10 a0_11).bind fun t280 => (if t280 = true then ((spec_l01Num.f k a0_0).bind fun t281 => (if 6 + t281.size ≤ 9223372036854775807 then (if ((⟨#[114, 117, 108, 101, 115, 32]⟩ : ByteArray) ++ t281).size + 1 ≤ 9223372036854775807 then ((spec_l01Num.f k a0_1).bind fun t282 => (if (((⟨#[114, 117, 108, 101, 115, 32]⟩ : ByteArray) ++ t281) ++ (⟨#[32]⟩ : ByteArray)).size + t282.size ≤ 9223372036854775807 then (if ((((⟨#[114, 117, 108, 101, 115, 32]⟩ : ByteArray) ++ t281) ++ (⟨#[32]⟩ : ByteArray)) ++ t282).size + 1 ≤ 9223372036854775807 then ((spec_l01Num.f k a0_2).bind fun t283 => (if (((((⟨#[114, 117, 108, 101, 115, 32]⟩ : ByteArray) ++ t281) ++ (⟨#[32]⟩ : ByteArray)) ++ t282) ++ (⟨#[32]⟩ : ByteArray)).size + t283.size ≤ 9223372036854775807 then (if ((((((⟨#[114, 117, 108, 101, 115, 32]⟩ : ByteArray) ++ t281) ++ (⟨#[32]⟩ : ByteArray)) ++ t282) ++ (⟨#[32]⟩ : ByteArray)) ++ t283).size + 1 ≤ 9223372036854775807 then (spec_SetupText.l0 k (((((((⟨#[114, 117, 108, 101, 115, 32]⟩ : ByteArray) ++ t281) ++ (⟨#[32]⟩ : ByteArray)) ++ t282) ++ (⟨#[32]⟩ : ByteArray)) ++ t283) ++ (⟨#[10]⟩ : ByteArray)) 0 a0_0 a0_1 a0_2 l0_3 l0_4 a0_5 a0_6 l0_7 a0_8 a0_9 a0_10 a0_11) else (none)) else (none))) else (none)) else (none))) else (none)) else (none))) else (some ((⟨#[]⟩ : ByteArray), false)))) = some (r1, r2) := h
 clear h
 replace H := Option.bind_eq_some_iff.mp H
 obtain ⟨t280, A20, H⟩ := H
 replace H : (if t280 = true then ((spec_l01Num.f k a0_0).bind fun t281 => (if 6 + t281.size ≤ 9223372036854775807 then (if ((⟨#[114, 117, 108, 101, 115, 32]⟩ : ByteArray) ++ t281).size + 1 ≤ 9223372036854775807 then ((spec_l01Num.f k a0_1).bind fun t282 => (if (((⟨#[114, 117, 108, 101, 115, 32]⟩ : ByteArray) ++ t281) ++ (⟨#[32]⟩ : ByteArray)).size + t282.size ≤ 9223372036854775807 then (if ((((⟨#[114, 117, 108, 101, 115, 32]⟩ : ByteArray) ++ t281) ++ (⟨#[32]⟩ : ByteArray)) ++ t282).size + 1 ≤ 9223372036854775807 then ((spec_l01Num.f k a0_2).bind fun t283 => (if (((((⟨#[114, 117, 108, 101, 115, 32]⟩ : ByteArray) ++ t281) ++ (⟨#[32]⟩ : ByteArray)) ++ t282) ++ (⟨#[32]⟩ : ByteArray)).size + t283.size ≤ 9223372036854775807 then (if ((((((⟨#[114, 117, 108, 101, 115, 32]⟩ : ByteArray) ++ t281) ++ (⟨#[32]⟩ : ByteArray)) ++ t282) ++ (⟨#[32]⟩ : ByteArray)) ++ t283).size + 1 ≤ 9223372036854775807 then (spec_SetupText.l0 k (((((((⟨#[114, 117, 108, 101, 115, 32]⟩ : ByteArray) ++ t281) ++ (⟨#[32]⟩ : ByteArray)) ++ t282) ++ (⟨#[32]⟩ : ByteArray)) ++ t283) ++ (⟨#[10]⟩ : ByteArray)) 0 a0_0 a0_1 a0_2 l0_3 l0_4 a0_5 a0_6 l0_7 a0_8 a0_9 a0_10 a0_11) else (none)) else (none))) else (none)) else (none))) else (none)) else (none))) else (some ((⟨#[]⟩ : ByteArray), false))) = some (r1, r2) := H
 have A2 := Aside0.mk A20
 clear A20
 by_cases c3 : t280 = true
 ·subst c3
  rw [if_pos rfl] at H
  replace H := Option.bind_eq_some_iff.mp H
  obtain ⟨t281, A40, H⟩ := H
  replace H : (if 6 + t281.size ≤ 9223372036854775807 then (if ((⟨#[114, 117, 108, 101, 115, 32]⟩ : ByteArray) ++ t281).size + 1 ≤ 9223372036854775807 then ((spec_l01Num.f k a0_1).bind fun t282 => (if (((⟨#[114, 117, 108, 101, 115, 32]⟩ : ByteArray) ++ t281) ++ (⟨#[32]⟩ : ByteArray)).size + t282.size ≤ 9223372036854775807 then (if ((((⟨#[114, 117, 108, 101, 115, 32]⟩ : ByteArray) ++ t281) ++ (⟨#[32]⟩ : ByteArray)) ++ t282).size + 1 ≤ 9223372036854775807 then ((spec_l01Num.f k a0_2).bind fun t283 => (if (((((⟨#[114, 117, 108, 101, 115, 32]⟩ : ByteArray) ++ t281) ++ (⟨#[32]⟩ : ByteArray)) ++ t282) ++ (⟨#[32]⟩ : ByteArray)).size + t283.size ≤ 9223372036854775807 then (if ((((((⟨#[114, 117, 108, 101, 115, 32]⟩ : ByteArray) ++ t281) ++ (⟨#[32]⟩ : ByteArray)) ++ t282) ++ (⟨#[32]⟩ : ByteArray)) ++ t283).size + 1 ≤ 9223372036854775807 then (spec_SetupText.l0 k (((((((⟨#[114, 117, 108, 101, 115, 32]⟩ : ByteArray) ++ t281) ++ (⟨#[32]⟩ : ByteArray)) ++ t282) ++ (⟨#[32]⟩ : ByteArray)) ++ t283) ++ (⟨#[10]⟩ : ByteArray)) 0 a0_0 a0_1 a0_2 l0_3 l0_4 a0_5 a0_6 l0_7 a0_8 a0_9 a0_10 a0_11) else (none)) else (none))) else (none)) else (none))) else (none)) else (none)) = some (r1, r2) := H
  have A4 := Aside0.mk A40
  clear A40
  by_cases c5 : 6 + t281.size ≤ 9223372036854775807
  ·rw [if_pos c5] at H
   have c5b0 := eq_true c5
   have c5b1 : decide (6 + t281.size ≤ 9223372036854775807) = true := decide_eq_true c5
   try have c5b2 : (9223372036854775807 < 6 + t281.size) = False := eq_false (Nat.not_lt.2 c5)
   by_cases c6 : ((⟨#[114, 117, 108, 101, 115, 32]⟩ : ByteArray) ++ t281).size + 1 ≤ 9223372036854775807
   ·rw [if_pos c6] at H
    have c6n3 := c6
    try simp only [ByteArray.size_append, show (⟨#[114, 117, 108, 101, 115, 32]⟩ : ByteArray).size = 6 from rfl] at c6n3
    try have c6n4 := eq_true c6n3
    try have c6n5 := decide_eq_true c6n3
    try have c6n6 := eq_false (Nat.not_lt.2 c6n3)
    have c6b0 := eq_true c6
    have c6b1 : decide (((⟨#[114, 117, 108, 101, 115, 32]⟩ : ByteArray) ++ t281).size + 1 ≤ 9223372036854775807) = true := decide_eq_true c6
    try have c6b2 : (9223372036854775807 < ((⟨#[114, 117, 108, 101, 115, 32]⟩ : ByteArray) ++ t281).size + 1) = False := eq_false (Nat.not_lt.2 c6)
    replace H := Option.bind_eq_some_iff.mp H
    obtain ⟨t282, A70, H⟩ := H
    replace H : (if (((⟨#[114, 117, 108, 101, 115, 32]⟩ : ByteArray) ++ t281) ++ (⟨#[32]⟩ : ByteArray)).size + t282.size ≤ 9223372036854775807 then (if ((((⟨#[114, 117, 108, 101, 115, 32]⟩ : ByteArray) ++ t281) ++ (⟨#[32]⟩ : ByteArray)) ++ t282).size + 1 ≤ 9223372036854775807 then ((spec_l01Num.f k a0_2).bind fun t283 => (if (((((⟨#[114, 117, 108, 101, 115, 32]⟩ : ByteArray) ++ t281) ++ (⟨#[32]⟩ : ByteArray)) ++ t282) ++ (⟨#[32]⟩ : ByteArray)).size + t283.size ≤ 9223372036854775807 then (if ((((((⟨#[114, 117, 108, 101, 115, 32]⟩ : ByteArray) ++ t281) ++ (⟨#[32]⟩ : ByteArray)) ++ t282) ++ (⟨#[32]⟩ : ByteArray)) ++ t283).size + 1 ≤ 9223372036854775807 then (spec_SetupText.l0 k (((((((⟨#[114, 117, 108, 101, 115, 32]⟩ : ByteArray) ++ t281) ++ (⟨#[32]⟩ : ByteArray)) ++ t282) ++ (⟨#[32]⟩ : ByteArray)) ++ t283) ++ (⟨#[10]⟩ : ByteArray)) 0 a0_0 a0_1 a0_2 l0_3 l0_4 a0_5 a0_6 l0_7 a0_8 a0_9 a0_10 a0_11) else (none)) else (none))) else (none)) else (none)) = some (r1, r2) := H
    have A7 := Aside0.mk A70
    clear A70
    by_cases c8 : (((⟨#[114, 117, 108, 101, 115, 32]⟩ : ByteArray) ++ t281) ++ (⟨#[32]⟩ : ByteArray)).size + t282.size ≤ 9223372036854775807
    ·rw [if_pos c8] at H
     have c8n3 := c8
     try simp only [ByteArray.size_append, show (⟨#[114, 117, 108, 101, 115, 32]⟩ : ByteArray).size = 6 from rfl, show (⟨#[32]⟩ : ByteArray).size = 1 from rfl] at c8n3
     try have c8n4 := eq_true c8n3
     try have c8n5 := decide_eq_true c8n3
     try have c8n6 := eq_false (Nat.not_lt.2 c8n3)
     have c8b0 := eq_true c8
     have c8b1 : decide ((((⟨#[114, 117, 108, 101, 115, 32]⟩ : ByteArray) ++ t281) ++ (⟨#[32]⟩ : ByteArray)).size + t282.size ≤ 9223372036854775807) = true := decide_eq_true c8
     try have c8b2 : (9223372036854775807 < (((⟨#[114, 117, 108, 101, 115, 32]⟩ : ByteArray) ++ t281) ++ (⟨#[32]⟩ : ByteArray)).size + t282.size) = False := eq_false (Nat.not_lt.2 c8)
     by_cases c9 : ((((⟨#[114, 117, 108, 101, 115, 32]⟩ : ByteArray) ++ t281) ++ (⟨#[32]⟩ : ByteArray)) ++ t282).size + 1 ≤ 9223372036854775807
     ·rw [if_pos c9] at H
      have c9n3 := c9
      try simp only [ByteArray.size_append, show (⟨#[114, 117, 108, 101, 115, 32]⟩ : ByteArray).size = 6 from rfl, show (⟨#[32]⟩ : ByteArray).size = 1 from rfl] at c9n3
      try have c9n4 := eq_true c9n3
      try have c9n5 := decide_eq_true c9n3
      try have c9n6 := eq_false (Nat.not_lt.2 c9n3)
      have c9b0 := eq_true c9
      have c9b1 : decide (((((⟨#[114, 117, 108, 101, 115, 32]⟩ : ByteArray) ++ t281) ++ (⟨#[32]⟩ : ByteArray)) ++ t282).size + 1 ≤ 9223372036854775807) = true := decide_eq_true c9
      try have c9b2 : (9223372036854775807 < ((((⟨#[114, 117, 108, 101, 115, 32]⟩ : ByteArray) ++ t281) ++ (⟨#[32]⟩ : ByteArray)) ++ t282).size + 1) = False := eq_false (Nat.not_lt.2 c9)
      replace H := Option.bind_eq_some_iff.mp H
      obtain ⟨t283, A100, H⟩ := H
      replace H : (if (((((⟨#[114, 117, 108, 101, 115, 32]⟩ : ByteArray) ++ t281) ++ (⟨#[32]⟩ : ByteArray)) ++ t282) ++ (⟨#[32]⟩ : ByteArray)).size + t283.size ≤ 9223372036854775807 then (if ((((((⟨#[114, 117, 108, 101, 115, 32]⟩ : ByteArray) ++ t281) ++ (⟨#[32]⟩ : ByteArray)) ++ t282) ++ (⟨#[32]⟩ : ByteArray)) ++ t283).size + 1 ≤ 9223372036854775807 then (spec_SetupText.l0 k (((((((⟨#[114, 117, 108, 101, 115, 32]⟩ : ByteArray) ++ t281) ++ (⟨#[32]⟩ : ByteArray)) ++ t282) ++ (⟨#[32]⟩ : ByteArray)) ++ t283) ++ (⟨#[10]⟩ : ByteArray)) 0 a0_0 a0_1 a0_2 l0_3 l0_4 a0_5 a0_6 l0_7 a0_8 a0_9 a0_10 a0_11) else (none)) else (none)) = some (r1, r2) := H
      have A10 := Aside0.mk A100
      clear A100
      by_cases c11 : (((((⟨#[114, 117, 108, 101, 115, 32]⟩ : ByteArray) ++ t281) ++ (⟨#[32]⟩ : ByteArray)) ++ t282) ++ (⟨#[32]⟩ : ByteArray)).size + t283.size ≤ 9223372036854775807
      ·rw [if_pos c11] at H
       have c11n3 := c11
       try simp only [ByteArray.size_append, show (⟨#[114, 117, 108, 101, 115, 32]⟩ : ByteArray).size = 6 from rfl, show (⟨#[32]⟩ : ByteArray).size = 1 from rfl] at c11n3
       try have c11n4 := eq_true c11n3
       try have c11n5 := decide_eq_true c11n3
       try have c11n6 := eq_false (Nat.not_lt.2 c11n3)
       have c11b0 := eq_true c11
       have c11b1 : decide ((((((⟨#[114, 117, 108, 101, 115, 32]⟩ : ByteArray) ++ t281) ++ (⟨#[32]⟩ : ByteArray)) ++ t282) ++ (⟨#[32]⟩ : ByteArray)).size + t283.size ≤ 9223372036854775807) = true := decide_eq_true c11
       try have c11b2 : (9223372036854775807 < (((((⟨#[114, 117, 108, 101, 115, 32]⟩ : ByteArray) ++ t281) ++ (⟨#[32]⟩ : ByteArray)) ++ t282) ++ (⟨#[32]⟩ : ByteArray)).size + t283.size) = False := eq_false (Nat.not_lt.2 c11)
       by_cases c12 : ((((((⟨#[114, 117, 108, 101, 115, 32]⟩ : ByteArray) ++ t281) ++ (⟨#[32]⟩ : ByteArray)) ++ t282) ++ (⟨#[32]⟩ : ByteArray)) ++ t283).size + 1 ≤ 9223372036854775807
       ·rw [if_pos c12] at H
        have c12n3 := c12
        try simp only [ByteArray.size_append, show (⟨#[114, 117, 108, 101, 115, 32]⟩ : ByteArray).size = 6 from rfl, show (⟨#[32]⟩ : ByteArray).size = 1 from rfl] at c12n3
        try have c12n4 := eq_true c12n3
        try have c12n5 := decide_eq_true c12n3
        try have c12n6 := eq_false (Nat.not_lt.2 c12n3)
        have c12b0 := eq_true c12
        have c12b1 : decide (((((((⟨#[114, 117, 108, 101, 115, 32]⟩ : ByteArray) ++ t281) ++ (⟨#[32]⟩ : ByteArray)) ++ t282) ++ (⟨#[32]⟩ : ByteArray)) ++ t283).size + 1 ≤ 9223372036854775807) = true := decide_eq_true c12
        try have c12b2 : (9223372036854775807 < ((((((⟨#[114, 117, 108, 101, 115, 32]⟩ : ByteArray) ++ t281) ++ (⟨#[32]⟩ : ByteArray)) ++ t282) ++ (⟨#[32]⟩ : ByteArray)) ++ t283).size + 1) = False := eq_false (Nat.not_lt.2 c12)
        have H' := Aside0.mk H
        clear H
        go_enter Tryd.func16, Tryd.ntmps16
        try go_wp2_with (first | ((with_reducible refine gate_dst (N := 1) rfl ?_); refine be_ (N := 1) (cs := #[.int .i64 a0_0, .int .i64 a0_1, .int .i64 a0_2, .slice A0_3 l0_3.length c0_3, .slice A0_4 l0_4.length c0_4, .int .i64 a0_5, .int .i64 a0_6, .slice A0_7 l0_7.length c0_7, .int .i64 a0_8, .int .i64 a0_9, .int .i64 a0_10, .int .i64 a0_11]) (t := 54) ?_; intro gb279 hg w13 hbox hb; have BK279 := ak_ hbox; have GW279 := ak_ ((gs_ hg : w.heap.size ≤ gb279)); have GE279 := ak_ ((gs_ hg : w.heap.size ≤ gb279)); replace HB := ak_ (below_step hb_ hb); clear hb hbox hg; obtain ⟨hcz14_0, hcz14_1, hcz14_2, hcz14_3, hcz14_4, hcz14_5, hcz14_6, hcz14_7, hcz14_8, hcz14_9, hcz14_10, hcz14_11, hfz14_0, hfz14_1, hfz14_2, hfz14_3, hfz14_4, hfz14_5, hfz14_6, hfz14_7, hfz14_8, hfz14_9, hfz14_10, hfz14_11⟩ := bc12_ BK279.out) | ((with_reducible refine gate_callee (f := 34) rfl ?_); refine goesL_ (some 8) rfl rfl Tryd.func34 (by kernel_rfl) rfl #[.agg #[.int .i64 a0_0, .int .i64 a0_1, .int .i64 a0_2, .slice A0_3 l0_3.length c0_3, .slice A0_4 l0_4.length c0_4, .int .i64 a0_5, .int .i64 a0_6, .slice A0_7 l0_7.length c0_7, .int .i64 a0_8, .int .i64 a0_9, .int .i64 a0_10, .int .i64 a0_11]] rfl (ma1_ rfl) ?_; (with_reducible refine (spec_SetupOk.calls k a0_0 a0_1 a0_2 _ _ l0_3 _ _ l0_4 a0_5 a0_6 _ _ l0_7 a0_8 a0_9 a0_10 a0_11 true _ ?side1 ?side2 ?side3 ?side4 ?side5 ?side6 A2.out).mono ?_); (case side1 => exact kc_ HR0_3); (case side2 => exact HC0_3.out); (case side3 => exact kc_ HR0_4); (case side4 => exact HC0_4.out); (case side5 => exact kc_ HR0_7); (case side6 => exact HC0_7.out); rintro e w15 ⟨rfl, hb⟩; refine ⟨_, rfl, ?_⟩; replace BK279 := ak_ (blk_below (bk_ BK279) hb); replace HB := ak_ (below_step hb_ hb); (try clear hb)))
        replace BK279 := ak_ (blk_drew BK279.out)
        replace HB := ak_ (below_drew1 HB.out)
        refine start_ (n := 19) (S := fun w' => w'.cell? ⟨gb279, 0, none⟩ = some (.int .i64 a0_0) ∧ w'.cell? ⟨gb279, 1, none⟩ = some (.int .i64 a0_1) ∧ w'.cell? ⟨gb279, 2, none⟩ = some (.int .i64 a0_2) ∧ w'.cell? ⟨gb279, 3, none⟩ = some (.slice A0_3 l0_3.length c0_3) ∧ w'.cell? ⟨gb279, 4, none⟩ = some (.slice A0_4 l0_4.length c0_4) ∧ w'.cell? ⟨gb279, 5, none⟩ = some (.int .i64 a0_5) ∧ w'.cell? ⟨gb279, 6, none⟩ = some (.int .i64 a0_6) ∧ w'.cell? ⟨gb279, 7, none⟩ = some (.slice A0_7 l0_7.length c0_7) ∧ w'.cell? ⟨gb279, 8, none⟩ = some (.int .i64 a0_8) ∧ w'.cell? ⟨gb279, 9, none⟩ = some (.int .i64 a0_9) ∧ w'.cell? ⟨gb279, 10, none⟩ = some (.int .i64 a0_10) ∧ w'.cell? ⟨gb279, 11, none⟩ = some (.int .i64 a0_11)) (ds := []) #[false, false, false, false, false, false, false, false, false, false, false, false, false, false, false, false, false, false, false] (by kernel_rfl) rfl rfl ⟨(blk_cell BK279.out 0).trans rfl, (blk_cell BK279.out 1).trans rfl, (blk_cell BK279.out 2).trans rfl, (blk_cell BK279.out 3).trans rfl, (blk_cell BK279.out 4).trans rfl, (blk_cell BK279.out 5).trans rfl, (blk_cell BK279.out 6).trans rfl, (blk_cell BK279.out 7).trans rfl, (blk_cell BK279.out 8).trans rfl, (blk_cell BK279.out 9).trans rfl, (blk_cell BK279.out 10).trans rfl, (blk_cell BK279.out 11).trans rfl⟩ (fun hHeld => ?_); refine with_tabW spec_SetupText.tab3 spec_SetupText.bits3 (fun HT_ HW_ => ?_)
        generalize w15.drew = w16 at BK279 HB hHeld ⊢
        refine pure_ (i := 0) (N := some 10) (v := ?_) (a' := ?_) #[true, false, false, false, false, false, false, false, false, false, false, false, false, false, false, false, false, false, false] rfl rfl (any_of HT_.out (by kernel_rfl)) (fun _ _ _ h => h) (Or.inl ⟨by rfl, ?_⟩) ?_ ?_; rotate_left; (intro w'; go_simp; with_reducible rfl); rotate_left; (simp only [Act.put, List.setIfInBounds_toArray, List.set_cons_zero, List.set_cons_succ, i64_w, i32_w]; rfl)
        refine pure_ (i := 1) (N := some 11) (v := ?_) (a' := ?_) #[true, true, false, false, false, false, false, false, false, false, false, false, false, false, false, false, false, false, false] rfl rfl (any_of HT_.out (by kernel_rfl)) (fun _ _ _ h => h) (Or.inl ⟨by rfl, ?_⟩) ?_ ?_; rotate_left; (intro w'; go_simp; with_reducible rfl); rotate_left; (simp only [Act.put, List.setIfInBounds_toArray, List.set_cons_zero, List.set_cons_succ, i64_w, i32_w]; rfl)
        refine pure_ (i := 6) (N := some 16) (v := ?_) (a' := ?_) #[true, true, false, false, false, false, true, false, false, false, false, false, false, false, false, false, false, false, false] rfl rfl (any_of HT_.out (by kernel_rfl)) (fun _ _ _ h => h) (Or.inl ⟨by rfl, ?_⟩) ?_ ?_; rotate_left; (intro w'; go_simp; with_reducible rfl); rotate_left; (simp only [Act.put, List.setIfInBounds_toArray, List.set_cons_zero, List.set_cons_succ, i64_w, i32_w]; rfl)
        refine pure_ (i := 7) (N := some 17) (v := ?_) (a' := ?_) #[true, true, false, false, false, false, true, true, false, false, false, false, false, false, false, false, false, false, false] rfl rfl (any_of HT_.out (by kernel_rfl)) (fun _ _ _ h => h) (Or.inl ⟨by rfl, ?_⟩) ?_ ?_; rotate_left; (intro w'; go_simp; with_reducible rfl); rotate_left; (simp only [Act.put, List.setIfInBounds_toArray, List.set_cons_zero, List.set_cons_succ, i64_w, i32_w]; rfl)
        refine pure_ (i := 12) (N := some 22) (v := ?_) (a' := ?_) #[true, true, false, false, false, false, true, true, false, false, false, false, true, false, false, false, false, false, false] rfl rfl (any_of HT_.out (by kernel_rfl)) (fun _ _ _ h => h) (Or.inl ⟨by rfl, ?_⟩) ?_ ?_; rotate_left; (intro w'; go_simp; with_reducible rfl); rotate_left; (simp only [Act.put, List.setIfInBounds_toArray, List.set_cons_zero, List.set_cons_succ, i64_w, i32_w]; rfl)
        refine pure_ (i := 13) (N := some 23) (v := ?_) (a' := ?_) #[true, true, false, false, false, false, true, true, false, false, false, false, true, true, false, false, false, false, false] rfl rfl (any_of HT_.out (by kernel_rfl)) (fun _ _ _ h => h) (Or.inl ⟨by rfl, ?_⟩) ?_ ?_; rotate_left; (intro w'; go_simp; with_reducible rfl); rotate_left; (simp only [Act.put, List.setIfInBounds_toArray, List.set_cons_zero, List.set_cons_succ, i64_w, i32_w]; rfl)
        refine take_ (i := 2) (N := some 12) (v := ?_) (a' := ?_) #[true, true, true, false, false, false, true, true, false, false, false, false, true, true, false, false, false, false, false] rfl rfl (take_ofW HT_.out HW_.out (by kernel_rfl)) (fun _ _ _ h => h) (Or.inl ⟨by rfl, ?_⟩) hHeld ?_ ?_; rotate_left; (rintro w' ⟨s0, s1, s2, s3, s4, s5, s6, s7, s8, s9, s10, s11⟩; go_simp; with_reducible rfl); rotate_left; (simp only [Act.put, List.setIfInBounds_toArray, List.set_cons_zero, List.set_cons_succ, i64_w, i32_w]; rfl)
        refine take_ (i := 8) (N := some 18) (v := ?_) (a' := ?_) #[true, true, true, false, false, false, true, true, true, false, false, false, true, true, false, false, false, false, false] rfl rfl (take_ofW HT_.out HW_.out (by kernel_rfl)) (fun _ _ _ h => h) (Or.inl ⟨by rfl, ?_⟩) hHeld ?_ ?_; rotate_left; (rintro w' ⟨s0, s1, s2, s3, s4, s5, s6, s7, s8, s9, s10, s11⟩; go_simp; with_reducible rfl); rotate_left; (simp only [Act.put, List.setIfInBounds_toArray, List.set_cons_zero, List.set_cons_succ, i64_w, i32_w]; rfl)
        refine take_ (i := 14) (N := some 24) (v := ?_) (a' := ?_) #[true, true, true, false, false, false, true, true, true, false, false, false, true, true, true, false, false, false, false] rfl rfl (take_ofW HT_.out HW_.out (by kernel_rfl)) (fun _ _ _ h => h) (Or.inl ⟨by rfl, ?_⟩) hHeld ?_ ?_; rotate_left; (rintro w' ⟨s0, s1, s2, s3, s4, s5, s6, s7, s8, s9, s10, s11⟩; go_simp; with_reducible rfl); rotate_left; (simp only [Act.put, List.setIfInBounds_toArray, List.set_cons_zero, List.set_cons_succ, i64_w, i32_w]; rfl)
        refine one_ (i := 3) (N := some 13) #[true, true, true, true, false, false, true, true, true, false, false, false, true, true, true, false, false, false, false] rfl rfl (one_of HT_.out (by kernel_rfl)) (by decide) (fun K hK => ?_)
        refine goes_ Tryd.func24 (by kernel_rfl) rfl #[.int .i64 a0_0] (by rfl) rfl rfl (ma1_ rfl) ?_
        with_reducible refine (spec_l01Num.calls k a0_0 t281 _ A4.out).mono ?_
        rintro e w17 ⟨rfl, hb⟩
        refine ⟨_, rfl, ?_⟩
        replace BK279 := ak_ (blk_below (bk_ BK279) hb)
        replace HB := ak_ (below_step hb_ hb)
        (try clear hb)
        (try clear hb2)
        (try clear hk)
        (try clear hi)
        refine hK.out _ _ ⟨(blk_cell BK279.out 0).trans rfl, (blk_cell BK279.out 1).trans rfl, (blk_cell BK279.out 2).trans rfl, (blk_cell BK279.out 3).trans rfl, (blk_cell BK279.out 4).trans rfl, (blk_cell BK279.out 5).trans rfl, (blk_cell BK279.out 6).trans rfl, (blk_cell BK279.out 7).trans rfl, (blk_cell BK279.out 8).trans rfl, (blk_cell BK279.out 9).trans rfl, (blk_cell BK279.out 10).trans rfl, (blk_cell BK279.out 11).trans rfl⟩ (fun hHeld => ?_)
        clear hK K
        refine norm_ (a' := ?_) ?_ ?_
        rotate_left
        ·show Act.put _ (some 13) _ = _
         simp only [Act.put, List.setIfInBounds_toArray, List.set_cons_zero, List.set_cons_succ, i64_w, i32_w]
         rfl
        refine pure_ (i := 4) (N := some 14) (v := ?_) (a' := ?_) #[true, true, true, true, true, false, true, true, true, false, false, false, true, true, true, false, false, false, false] rfl rfl (any_of HT_.out (by kernel_rfl)) (fun _ _ _ h => h) (Or.inl ⟨by rfl, ?_⟩) ?_ ?_; rotate_left; (intro w'; go_simp; with_reducible rfl); rotate_left; (simp only [Act.put, List.setIfInBounds_toArray, List.set_cons_zero, List.set_cons_succ, i64_w, i32_w]; rfl)
        refine pure_ (i := 5) (N := some 15) (v := ?_) (a' := ?_) #[true, true, true, true, true, true, true, true, true, false, false, false, true, true, true, false, false, false, false] rfl rfl (any_of HT_.out (by kernel_rfl)) (fun _ _ _ h => h) (Or.inl ⟨by rfl, ?_⟩) ?_ ?_; rotate_left; (intro w'; go_simp; with_reducible rfl); rotate_left; (simp only [Act.put, List.setIfInBounds_toArray, List.set_cons_zero, List.set_cons_succ, i64_w, i32_w]; rfl)
        refine one_ (i := 9) (N := some 19) #[true, true, true, true, true, true, true, true, true, true, false, false, true, true, true, false, false, false, false] rfl rfl (one_of HT_.out (by kernel_rfl)) (by decide) (fun K hK => ?_)
        refine goes_ Tryd.func24 (by kernel_rfl) rfl #[.int .i64 a0_1] (by rfl) rfl rfl (ma1_ rfl) ?_
        with_reducible refine (spec_l01Num.calls k a0_1 t282 _ A7.out).mono ?_
        rintro e w18 ⟨rfl, hb⟩
        refine ⟨_, rfl, ?_⟩
        replace BK279 := ak_ (blk_below (bk_ BK279) hb)
        replace HB := ak_ (below_step hb_ hb)
        (try clear hb)
        (try clear hb2)
        (try clear hk)
        (try clear hi)
        refine hK.out _ _ ⟨(blk_cell BK279.out 0).trans rfl, (blk_cell BK279.out 1).trans rfl, (blk_cell BK279.out 2).trans rfl, (blk_cell BK279.out 3).trans rfl, (blk_cell BK279.out 4).trans rfl, (blk_cell BK279.out 5).trans rfl, (blk_cell BK279.out 6).trans rfl, (blk_cell BK279.out 7).trans rfl, (blk_cell BK279.out 8).trans rfl, (blk_cell BK279.out 9).trans rfl, (blk_cell BK279.out 10).trans rfl, (blk_cell BK279.out 11).trans rfl⟩ (fun hHeld => ?_)
        clear hK K
        refine norm_ (a' := ?_) ?_ ?_
        rotate_left
        ·show Act.put _ (some 19) _ = _
         simp only [Act.put, List.setIfInBounds_toArray, List.set_cons_zero, List.set_cons_succ, i64_w, i32_w]
         rfl
        refine pure_ (i := 10) (N := some 20) (v := ?_) (a' := ?_) #[true, true, true, true, true, true, true, true, true, true, true, false, true, true, true, false, false, false, false] rfl rfl (any_of HT_.out (by kernel_rfl)) (fun _ _ _ h => h) (Or.inl ⟨by rfl, ?_⟩) ?_ ?_; rotate_left; (intro w'; go_simp; with_reducible rfl); rotate_left; (simp only [Act.put, List.setIfInBounds_toArray, List.set_cons_zero, List.set_cons_succ, i64_w, i32_w]; rfl)
        refine pure_ (i := 11) (N := some 21) (v := ?_) (a' := ?_) #[true, true, true, true, true, true, true, true, true, true, true, true, true, true, true, false, false, false, false] rfl rfl (any_of HT_.out (by kernel_rfl)) (fun _ _ _ h => h) (Or.inl ⟨by rfl, ?_⟩) ?_ ?_; rotate_left; (intro w'; go_simp; with_reducible rfl); rotate_left; (simp only [Act.put, List.setIfInBounds_toArray, List.set_cons_zero, List.set_cons_succ, i64_w, i32_w]; rfl)
        refine one_ (i := 15) (N := some 25) #[true, true, true, true, true, true, true, true, true, true, true, true, true, true, true, true, false, false, false] rfl rfl (one_of HT_.out (by kernel_rfl)) (by decide) (fun K hK => ?_)
        refine goes_ Tryd.func24 (by kernel_rfl) rfl #[.int .i64 a0_2] (by rfl) rfl rfl (ma1_ rfl) ?_
        with_reducible refine (spec_l01Num.calls k a0_2 t283 _ A10.out).mono ?_
        rintro e w19 ⟨rfl, hb⟩
        refine ⟨_, rfl, ?_⟩
        replace BK279 := ak_ (blk_below (bk_ BK279) hb)
        replace HB := ak_ (below_step hb_ hb)
        (try clear hb)
        (try clear hb2)
        (try clear hk)
        (try clear hi)
        refine hK.out _ _ ⟨(blk_cell BK279.out 0).trans rfl, (blk_cell BK279.out 1).trans rfl, (blk_cell BK279.out 2).trans rfl, (blk_cell BK279.out 3).trans rfl, (blk_cell BK279.out 4).trans rfl, (blk_cell BK279.out 5).trans rfl, (blk_cell BK279.out 6).trans rfl, (blk_cell BK279.out 7).trans rfl, (blk_cell BK279.out 8).trans rfl, (blk_cell BK279.out 9).trans rfl, (blk_cell BK279.out 10).trans rfl, (blk_cell BK279.out 11).trans rfl⟩ (fun hHeld => ?_)
        clear hK K
        refine norm_ (a' := ?_) ?_ ?_
        rotate_left
        ·show Act.put _ (some 25) _ = _
         simp only [Act.put, List.setIfInBounds_toArray, List.set_cons_zero, List.set_cons_succ, i64_w, i32_w]
         rfl
        refine pure_ (i := 16) (N := some 26) (v := ?_) (a' := ?_) #[true, true, true, true, true, true, true, true, true, true, true, true, true, true, true, true, true, false, false] rfl rfl (any_of HT_.out (by kernel_rfl)) (fun _ _ _ h => h) (Or.inl ⟨by rfl, ?_⟩) ?_ ?_; rotate_left; (intro w'; go_simp; with_reducible rfl); rotate_left; (simp only [Act.put, List.setIfInBounds_toArray, List.set_cons_zero, List.set_cons_succ, i64_w, i32_w]; rfl)
        refine pure_ (i := 17) (N := some 27) (v := ?_) (a' := ?_) #[true, true, true, true, true, true, true, true, true, true, true, true, true, true, true, true, true, true, false] rfl rfl (any_of HT_.out (by kernel_rfl)) (fun _ _ _ h => h) (Or.inl ⟨by rfl, ?_⟩) ?_ ?_; rotate_left; (intro w'; go_simp; with_reducible rfl); rotate_left; (simp only [Act.put, List.setIfInBounds_toArray, List.set_cons_zero, List.set_cons_succ, i64_w, i32_w]; rfl)
        refine pure_ (i := 18) (N := some 4) (v := ?_) (a' := ?_) #[true, true, true, true, true, true, true, true, true, true, true, true, true, true, true, true, true, true, true] rfl rfl (any_of HT_.out (by kernel_rfl)) (fun _ _ _ h => h) (Or.inl ⟨by rfl, ?_⟩) ?_ ?_; rotate_left; (intro w'; go_simp; with_reducible rfl); rotate_left; (simp only [Act.put, List.setIfInBounds_toArray, List.set_cons_zero, List.set_cons_succ, i64_w, i32_w]; rfl)
        refine done_ (done_of HT_.out (by kernel_rfl)) ?_
        try go_wp2
        go_loopg [4, 5] k (fun kq v4 v5 w' => ∃ (x4_1 : ByteArray) (x5_1 : Int), v4 = .string x4_1 ∧ v5 = .int .i64 x5_1 ∧ Aside0 (spec_SetupText.l0 kq x4_1 x5_1 a0_0 a0_1 a0_2 l0_3 l0_4 a0_5 a0_6 l0_7 a0_8 a0_9 a0_10 a0_11 = some (r1, r2)) ∧ Aside0 (kq ≤ k) ∧ Aside0 (w'.heap[gb279]? = some (.cells #[.int .i64 a0_0, .int .i64 a0_1, .int .i64 a0_2, (.slice A0_3 l0_3.length c0_3), (.slice A0_4 l0_4.length c0_4), .int .i64 a0_5, .int .i64 a0_6, (.slice A0_7 l0_7.length c0_7), .int .i64 a0_8, .int .i64 a0_9, .int .i64 a0_10, .int .i64 a0_11] 54 (0, 0))) ∧ Aside0 (Below w.heap.size w w'))
        case atStart => exact ⟨(((((((⟨#[114, 117, 108, 101, 115, 32]⟩ : ByteArray) ++ t281) ++ (⟨#[32]⟩ : ByteArray)) ++ t282) ++ (⟨#[32]⟩ : ByteArray)) ++ t283) ++ (⟨#[10]⟩ : ByteArray)), (0), (by first | rfl | (simp; done) | (simp [*]; done)), (by first | rfl | (simp; done) | (simp [*]; done)), H', ⟨Nat.le_refl _⟩, ⟨by (with_reducible repeat (first | refine blk_drewN ?_ _ | refine blk_drew ?_ | refine blk_alloc ?_ _)); exact BK279.out⟩, ⟨hb_⟩⟩
        case round =>
         clear H'
         try clear c1
         try clear c2
         try clear p2
         try clear c3
         try clear c5
         try clear c5b0
         try clear c5b1
         try clear c5b2
         try clear c6
         try clear c6b0
         try clear c6b1
         try clear c6b2
         try clear c8
         try clear c8b0
         try clear c8b1
         try clear c8b2
         try clear c9
         try clear c9b0
         try clear c9b1
         try clear c9b2
         try clear c11
         try clear c11b0
         try clear c11b1
         try clear c11b2
         try clear c12
         try clear c12b0
         try clear c12b1
         try clear c12b2
         try clear c16
         try clear hcz14_0
         try clear hcz14_1
         try clear hcz14_10
         try clear hcz14_11
         try clear hcz14_2
         try clear hcz14_3
         try clear hcz14_4
         try clear hcz14_5
         try clear hcz14_6
         try clear hcz14_7
         try clear hcz14_8
         try clear hcz14_9
         try clear hfz14_0
         try clear hfz14_1
         try clear hfz14_10
         try clear hfz14_11
         try clear hfz14_2
         try clear hfz14_3
         try clear hfz14_4
         try clear hfz14_5
         try clear hfz14_6
         try clear hfz14_7
         try clear hfz14_8
         try clear hfz14_9
         obtain ⟨x4_1, x5_1, rfl, rfl, HA, HK1, BK279, HB⟩ := hrel
         cases gk with
         | zero => exact absurd HA.out (by simp [spec_SetupText.l0])
         | succ k1 =>
          have H := HA.out
          clear HA
          simp only [spec_SetupText.l0] at H
          by_cases c20 : x5_1 < (l0_3.length : Int)
          ·rw [if_pos c20] at H
           have c20b0 : decide (x5_1 < (l0_3.length : Int)) = true := decide_eq_true c20
           clear c20
           by_cases c21 : x4_1.size + 5 ≤ 9223372036854775807
           ·rw [if_pos c21] at H
            have c21b0 := eq_true c21
            have c21b1 : decide (x4_1.size + 5 ≤ 9223372036854775807) = true := decide_eq_true c21
            try have c21b2 : (9223372036854775807 < x4_1.size + 5) = False := eq_false (Nat.not_lt.2 c21)
            by_cases c22 : 0 ≤ x5_1
            ·rw [if_pos c22] at H
             have c22b0 : decide (0 ≤ x5_1) = true := decide_eq_true c22
             clear c22
             replace H := Option.bind_eq_some_iff.mp H
             obtain ⟨t285, A230, H⟩ := H
             replace H : (if (x4_1 ++ (⟨#[103, 111, 97, 108, 32]⟩ : ByteArray)).size + t285.size ≤ 9223372036854775807 then (if ((x4_1 ++ (⟨#[103, 111, 97, 108, 32]⟩ : ByteArray)) ++ t285).size + 1 ≤ 9223372036854775807 then (spec_SetupText.l0 k1 (((x4_1 ++ (⟨#[103, 111, 97, 108, 32]⟩ : ByteArray)) ++ t285) ++ (⟨#[10]⟩ : ByteArray)) (wrap64 (x5_1 + 1)) a0_0 a0_1 a0_2 l0_3 l0_4 a0_5 a0_6 l0_7 a0_8 a0_9 a0_10 a0_11) else (none)) else (none)) = some (r1, r2) := H
             have A23 := Aside0.mk A230
             clear A230
             by_cases c24 : (x4_1 ++ (⟨#[103, 111, 97, 108, 32]⟩ : ByteArray)).size + t285.size ≤ 9223372036854775807
             ·rw [if_pos c24] at H
              have c24n3 := c24
              try simp only [ByteArray.size_append, show (⟨#[103, 111, 97, 108, 32]⟩ : ByteArray).size = 5 from rfl] at c24n3
              try have c24n4 := eq_true c24n3
              try have c24n5 := decide_eq_true c24n3
              try have c24n6 := eq_false (Nat.not_lt.2 c24n3)
              have c24b0 := eq_true c24
              have c24b1 : decide ((x4_1 ++ (⟨#[103, 111, 97, 108, 32]⟩ : ByteArray)).size + t285.size ≤ 9223372036854775807) = true := decide_eq_true c24
              try have c24b2 : (9223372036854775807 < (x4_1 ++ (⟨#[103, 111, 97, 108, 32]⟩ : ByteArray)).size + t285.size) = False := eq_false (Nat.not_lt.2 c24)
              by_cases c25 : ((x4_1 ++ (⟨#[103, 111, 97, 108, 32]⟩ : ByteArray)) ++ t285).size + 1 ≤ 9223372036854775807
              ·rw [if_pos c25] at H
               have c25n3 := c25
               try simp only [ByteArray.size_append, show (⟨#[103, 111, 97, 108, 32]⟩ : ByteArray).size = 5 from rfl] at c25n3
               try have c25n4 := eq_true c25n3
               try have c25n5 := decide_eq_true c25n3
               try have c25n6 := eq_false (Nat.not_lt.2 c25n3)
               have c25b0 := eq_true c25
               have c25b1 : decide (((x4_1 ++ (⟨#[103, 111, 97, 108, 32]⟩ : ByteArray)) ++ t285).size + 1 ≤ 9223372036854775807) = true := decide_eq_true c25
               try have c25b2 : (9223372036854775807 < ((x4_1 ++ (⟨#[103, 111, 97, 108, 32]⟩ : ByteArray)) ++ t285).size + 1) = False := eq_false (Nat.not_lt.2 c25)
               have H' := Aside0.mk H
               clear H
               obtain ⟨hcz26_0, hcz26_1, hcz26_2, hcz26_3, hcz26_4, hcz26_5, hcz26_6, hcz26_7, hcz26_8, hcz26_9, hcz26_10, hcz26_11, hfz26_0, hfz26_1, hfz26_2, hfz26_3, hfz26_4, hfz26_5, hfz26_6, hfz26_7, hfz26_8, hfz26_9, hfz26_10, hfz26_11⟩ := bc12_ BK279.out
               have p284 : 0 ≤ (x5_1 : Int) := of_decide_eq_true (by first | (with_reducible assumption) | assumption)
               have q284 : x5_1 < (l0_3.length : Int) := of_decide_eq_true (by first | (with_reducible assumption) | assumption)
               obtain ⟨ad284, e284, hx284_0, hx284_1, hx284_2⟩ := at_T75 HR0_3.out x5_1 p284 q284
               cases e284
               replace hx284_0 := cx_ HB hx284_0
               replace hx284_1 := cx_ HB hx284_1
               replace hx284_2 := cx_ HB hx284_2
               replace p284 := eq_true p284
               replace q284 := eq_true q284
               go_wp2_with (first | ((with_reducible refine gate_callee (f := 35) rfl ?_); refine goesL_ (some 42) rfl rfl Tryd.func35 (by kernel_rfl) rfl #[.agg #[.string ((rd_T75 l0_3 x5_1).f0), .int .i64 ((rd_T75 l0_3 x5_1).f1), .int .i64 ((rd_T75 l0_3 x5_1).f2)]] rfl (ma1_ rfl) ?_; (with_reducible refine (spec_GoalLine.calls k1 ((rd_T75 l0_3 x5_1).f0) ((rd_T75 l0_3 x5_1).f1) ((rd_T75 l0_3 x5_1).f2) t285 _ A23.out).mono ?_); rintro e w27 ⟨rfl, hb⟩; refine ⟨_, rfl, ?_⟩; replace BK279 := ak_ (blk_below (bk_ BK279) hb); replace HB := ak_ (below_step hb_ hb); (try clear hb)))
               go_roundg k1
               case measure => have := HK1.out; omega
               case rel => exact ⟨(((x4_1 ++ (⟨#[103, 111, 97, 108, 32]⟩ : ByteArray)) ++ t285) ++ (⟨#[10]⟩ : ByteArray)), (wrap64 (x5_1 + 1)), (by first | rfl | (simp; done) | (simp [*]; done)), (by first | rfl | (simp; done) | (simp [*]; done)), H', ⟨by have := HK1.out; omega⟩, ⟨by (with_reducible repeat (first | refine blk_drewN ?_ _ | refine blk_drew ?_ | refine blk_alloc ?_ _)); exact BK279.out⟩, ⟨hb_⟩⟩
              ·rw [if_neg c25] at H
               exact absurd H (by simp)
             ·rw [if_neg c24] at H
              exact absurd H (by simp)
            ·rw [if_neg c22] at H
             exact absurd H (by simp)
           ·rw [if_neg c21] at H
            exact absurd H (by simp)
          ·rw [if_neg c20] at H
           have c20b0 : decide (x5_1 < (l0_3.length : Int)) = false := decide_eq_false c20
           clear c20
           by_cases c28 : x4_1.size + 6 ≤ 9223372036854775807
           ·rw [if_pos c28] at H
            have c28b0 := eq_true c28
            have c28b1 : decide (x4_1.size + 6 ≤ 9223372036854775807) = true := decide_eq_true c28
            try have c28b2 : (9223372036854775807 < x4_1.size + 6) = False := eq_false (Nat.not_lt.2 c28)
            replace H := Option.bind_eq_some_iff.mp H
            obtain ⟨t287, A290, H⟩ := H
            replace H : (if (x4_1 ++ (⟨#[99, 111, 117, 110, 116, 32]⟩ : ByteArray)).size + t287.size ≤ 9223372036854775807 then (if ((x4_1 ++ (⟨#[99, 111, 117, 110, 116, 32]⟩ : ByteArray)) ++ t287).size + 1 ≤ 9223372036854775807 then ((spec_l01Num.f k1 a0_11).bind fun t288 => (if (((x4_1 ++ (⟨#[99, 111, 117, 110, 116, 32]⟩ : ByteArray)) ++ t287) ++ (⟨#[32]⟩ : ByteArray)).size + t288.size ≤ 9223372036854775807 then (if ((((x4_1 ++ (⟨#[99, 111, 117, 110, 116, 32]⟩ : ByteArray)) ++ t287) ++ (⟨#[32]⟩ : ByteArray)) ++ t288).size + 4 ≤ 9223372036854775807 then ((spec_SideText.f k1 l0_4 a0_5 a0_6).bind fun t289 => (if (((((x4_1 ++ (⟨#[99, 111, 117, 110, 116, 32]⟩ : ByteArray)) ++ t287) ++ (⟨#[32]⟩ : ByteArray)) ++ t288) ++ (⟨#[10, 117, 112, 32]⟩ : ByteArray)).size + t289.size ≤ 9223372036854775807 then (if ((((((x4_1 ++ (⟨#[99, 111, 117, 110, 116, 32]⟩ : ByteArray)) ++ t287) ++ (⟨#[32]⟩ : ByteArray)) ++ t288) ++ (⟨#[10, 117, 112, 32]⟩ : ByteArray)) ++ t289).size + 6 ≤ 9223372036854775807 then ((spec_SideText.f k1 l0_7 a0_8 a0_9).bind fun t290 => (if (((((((x4_1 ++ (⟨#[99, 111, 117, 110, 116, 32]⟩ : ByteArray)) ++ t287) ++ (⟨#[32]⟩ : ByteArray)) ++ t288) ++ (⟨#[10, 117, 112, 32]⟩ : ByteArray)) ++ t289) ++ (⟨#[10, 100, 111, 119, 110, 32]⟩ : ByteArray)).size + t290.size ≤ 9223372036854775807 then (if ((((((((x4_1 ++ (⟨#[99, 111, 117, 110, 116, 32]⟩ : ByteArray)) ++ t287) ++ (⟨#[32]⟩ : ByteArray)) ++ t288) ++ (⟨#[10, 117, 112, 32]⟩ : ByteArray)) ++ t289) ++ (⟨#[10, 100, 111, 119, 110, 32]⟩ : ByteArray)) ++ t290).size + 1 ≤ 9223372036854775807 then (some (((((((((x4_1 ++ (⟨#[99, 111, 117, 110, 116, 32]⟩ : ByteArray)) ++ t287) ++ (⟨#[32]⟩ : ByteArray)) ++ t288) ++ (⟨#[10, 117, 112, 32]⟩ : ByteArray)) ++ t289) ++ (⟨#[10, 100, 111, 119, 110, 32]⟩ : ByteArray)) ++ t290) ++ (⟨#[10]⟩ : ByteArray), true)) else (none)) else (none))) else (none)) else (none))) else (none)) else (none))) else (none)) else (none)) = some (r1, r2) := H
            have A29 := Aside0.mk A290
            clear A290
            by_cases c30 : (x4_1 ++ (⟨#[99, 111, 117, 110, 116, 32]⟩ : ByteArray)).size + t287.size ≤ 9223372036854775807
            ·rw [if_pos c30] at H
             have c30n3 := c30
             try simp only [ByteArray.size_append, show (⟨#[99, 111, 117, 110, 116, 32]⟩ : ByteArray).size = 6 from rfl] at c30n3
             try have c30n4 := eq_true c30n3
             try have c30n5 := decide_eq_true c30n3
             try have c30n6 := eq_false (Nat.not_lt.2 c30n3)
             have c30b0 := eq_true c30
             have c30b1 : decide ((x4_1 ++ (⟨#[99, 111, 117, 110, 116, 32]⟩ : ByteArray)).size + t287.size ≤ 9223372036854775807) = true := decide_eq_true c30
             try have c30b2 : (9223372036854775807 < (x4_1 ++ (⟨#[99, 111, 117, 110, 116, 32]⟩ : ByteArray)).size + t287.size) = False := eq_false (Nat.not_lt.2 c30)
             by_cases c31 : ((x4_1 ++ (⟨#[99, 111, 117, 110, 116, 32]⟩ : ByteArray)) ++ t287).size + 1 ≤ 9223372036854775807
             ·rw [if_pos c31] at H
              have c31n3 := c31
              try simp only [ByteArray.size_append, show (⟨#[99, 111, 117, 110, 116, 32]⟩ : ByteArray).size = 6 from rfl] at c31n3
              try have c31n4 := eq_true c31n3
              try have c31n5 := decide_eq_true c31n3
              try have c31n6 := eq_false (Nat.not_lt.2 c31n3)
              have c31b0 := eq_true c31
              have c31b1 : decide (((x4_1 ++ (⟨#[99, 111, 117, 110, 116, 32]⟩ : ByteArray)) ++ t287).size + 1 ≤ 9223372036854775807) = true := decide_eq_true c31
              try have c31b2 : (9223372036854775807 < ((x4_1 ++ (⟨#[99, 111, 117, 110, 116, 32]⟩ : ByteArray)) ++ t287).size + 1) = False := eq_false (Nat.not_lt.2 c31)
              replace H := Option.bind_eq_some_iff.mp H
              obtain ⟨t288, A320, H⟩ := H
              replace H : (if (((x4_1 ++ (⟨#[99, 111, 117, 110, 116, 32]⟩ : ByteArray)) ++ t287) ++ (⟨#[32]⟩ : ByteArray)).size + t288.size ≤ 9223372036854775807 then (if ((((x4_1 ++ (⟨#[99, 111, 117, 110, 116, 32]⟩ : ByteArray)) ++ t287) ++ (⟨#[32]⟩ : ByteArray)) ++ t288).size + 4 ≤ 9223372036854775807 then ((spec_SideText.f k1 l0_4 a0_5 a0_6).bind fun t289 => (if (((((x4_1 ++ (⟨#[99, 111, 117, 110, 116, 32]⟩ : ByteArray)) ++ t287) ++ (⟨#[32]⟩ : ByteArray)) ++ t288) ++ (⟨#[10, 117, 112, 32]⟩ : ByteArray)).size + t289.size ≤ 9223372036854775807 then (if ((((((x4_1 ++ (⟨#[99, 111, 117, 110, 116, 32]⟩ : ByteArray)) ++ t287) ++ (⟨#[32]⟩ : ByteArray)) ++ t288) ++ (⟨#[10, 117, 112, 32]⟩ : ByteArray)) ++ t289).size + 6 ≤ 9223372036854775807 then ((spec_SideText.f k1 l0_7 a0_8 a0_9).bind fun t290 => (if (((((((x4_1 ++ (⟨#[99, 111, 117, 110, 116, 32]⟩ : ByteArray)) ++ t287) ++ (⟨#[32]⟩ : ByteArray)) ++ t288) ++ (⟨#[10, 117, 112, 32]⟩ : ByteArray)) ++ t289) ++ (⟨#[10, 100, 111, 119, 110, 32]⟩ : ByteArray)).size + t290.size ≤ 9223372036854775807 then (if ((((((((x4_1 ++ (⟨#[99, 111, 117, 110, 116, 32]⟩ : ByteArray)) ++ t287) ++ (⟨#[32]⟩ : ByteArray)) ++ t288) ++ (⟨#[10, 117, 112, 32]⟩ : ByteArray)) ++ t289) ++ (⟨#[10, 100, 111, 119, 110, 32]⟩ : ByteArray)) ++ t290).size + 1 ≤ 9223372036854775807 then (some (((((((((x4_1 ++ (⟨#[99, 111, 117, 110, 116, 32]⟩ : ByteArray)) ++ t287) ++ (⟨#[32]⟩ : ByteArray)) ++ t288) ++ (⟨#[10, 117, 112, 32]⟩ : ByteArray)) ++ t289) ++ (⟨#[10, 100, 111, 119, 110, 32]⟩ : ByteArray)) ++ t290) ++ (⟨#[10]⟩ : ByteArray), true)) else (none)) else (none))) else (none)) else (none))) else (none)) else (none)) = some (r1, r2) := H
              have A32 := Aside0.mk A320
              clear A320
              by_cases c33 : (((x4_1 ++ (⟨#[99, 111, 117, 110, 116, 32]⟩ : ByteArray)) ++ t287) ++ (⟨#[32]⟩ : ByteArray)).size + t288.size ≤ 9223372036854775807
              ·rw [if_pos c33] at H
               have c33n3 := c33
               try simp only [ByteArray.size_append, show (⟨#[32]⟩ : ByteArray).size = 1 from rfl, show (⟨#[99, 111, 117, 110, 116, 32]⟩ : ByteArray).size = 6 from rfl] at c33n3
               try have c33n4 := eq_true c33n3
               try have c33n5 := decide_eq_true c33n3
               try have c33n6 := eq_false (Nat.not_lt.2 c33n3)
               have c33b0 := eq_true c33
               have c33b1 : decide ((((x4_1 ++ (⟨#[99, 111, 117, 110, 116, 32]⟩ : ByteArray)) ++ t287) ++ (⟨#[32]⟩ : ByteArray)).size + t288.size ≤ 9223372036854775807) = true := decide_eq_true c33
               try have c33b2 : (9223372036854775807 < (((x4_1 ++ (⟨#[99, 111, 117, 110, 116, 32]⟩ : ByteArray)) ++ t287) ++ (⟨#[32]⟩ : ByteArray)).size + t288.size) = False := eq_false (Nat.not_lt.2 c33)
               by_cases c34 : ((((x4_1 ++ (⟨#[99, 111, 117, 110, 116, 32]⟩ : ByteArray)) ++ t287) ++ (⟨#[32]⟩ : ByteArray)) ++ t288).size + 4 ≤ 9223372036854775807
               ·rw [if_pos c34] at H
                have c34n3 := c34
                try simp only [ByteArray.size_append, show (⟨#[32]⟩ : ByteArray).size = 1 from rfl, show (⟨#[99, 111, 117, 110, 116, 32]⟩ : ByteArray).size = 6 from rfl] at c34n3
                try have c34n4 := eq_true c34n3
                try have c34n5 := decide_eq_true c34n3
                try have c34n6 := eq_false (Nat.not_lt.2 c34n3)
                have c34b0 := eq_true c34
                have c34b1 : decide (((((x4_1 ++ (⟨#[99, 111, 117, 110, 116, 32]⟩ : ByteArray)) ++ t287) ++ (⟨#[32]⟩ : ByteArray)) ++ t288).size + 4 ≤ 9223372036854775807) = true := decide_eq_true c34
                try have c34b2 : (9223372036854775807 < ((((x4_1 ++ (⟨#[99, 111, 117, 110, 116, 32]⟩ : ByteArray)) ++ t287) ++ (⟨#[32]⟩ : ByteArray)) ++ t288).size + 4) = False := eq_false (Nat.not_lt.2 c34)
                replace H := Option.bind_eq_some_iff.mp H
                obtain ⟨t289, A350, H⟩ := H
                replace H : (if (((((x4_1 ++ (⟨#[99, 111, 117, 110, 116, 32]⟩ : ByteArray)) ++ t287) ++ (⟨#[32]⟩ : ByteArray)) ++ t288) ++ (⟨#[10, 117, 112, 32]⟩ : ByteArray)).size + t289.size ≤ 9223372036854775807 then (if ((((((x4_1 ++ (⟨#[99, 111, 117, 110, 116, 32]⟩ : ByteArray)) ++ t287) ++ (⟨#[32]⟩ : ByteArray)) ++ t288) ++ (⟨#[10, 117, 112, 32]⟩ : ByteArray)) ++ t289).size + 6 ≤ 9223372036854775807 then ((spec_SideText.f k1 l0_7 a0_8 a0_9).bind fun t290 => (if (((((((x4_1 ++ (⟨#[99, 111, 117, 110, 116, 32]⟩ : ByteArray)) ++ t287) ++ (⟨#[32]⟩ : ByteArray)) ++ t288) ++ (⟨#[10, 117, 112, 32]⟩ : ByteArray)) ++ t289) ++ (⟨#[10, 100, 111, 119, 110, 32]⟩ : ByteArray)).size + t290.size ≤ 9223372036854775807 then (if ((((((((x4_1 ++ (⟨#[99, 111, 117, 110, 116, 32]⟩ : ByteArray)) ++ t287) ++ (⟨#[32]⟩ : ByteArray)) ++ t288) ++ (⟨#[10, 117, 112, 32]⟩ : ByteArray)) ++ t289) ++ (⟨#[10, 100, 111, 119, 110, 32]⟩ : ByteArray)) ++ t290).size + 1 ≤ 9223372036854775807 then (some (((((((((x4_1 ++ (⟨#[99, 111, 117, 110, 116, 32]⟩ : ByteArray)) ++ t287) ++ (⟨#[32]⟩ : ByteArray)) ++ t288) ++ (⟨#[10, 117, 112, 32]⟩ : ByteArray)) ++ t289) ++ (⟨#[10, 100, 111, 119, 110, 32]⟩ : ByteArray)) ++ t290) ++ (⟨#[10]⟩ : ByteArray), true)) else (none)) else (none))) else (none)) else (none)) = some (r1, r2) := H
                have A35 := Aside0.mk A350
                clear A350
                by_cases c36 : (((((x4_1 ++ (⟨#[99, 111, 117, 110, 116, 32]⟩ : ByteArray)) ++ t287) ++ (⟨#[32]⟩ : ByteArray)) ++ t288) ++ (⟨#[10, 117, 112, 32]⟩ : ByteArray)).size + t289.size ≤ 9223372036854775807
                ·rw [if_pos c36] at H
                 have c36n3 := c36
                 try simp only [ByteArray.size_append, show (⟨#[10, 117, 112, 32]⟩ : ByteArray).size = 4 from rfl, show (⟨#[32]⟩ : ByteArray).size = 1 from rfl, show (⟨#[99, 111, 117, 110, 116, 32]⟩ : ByteArray).size = 6 from rfl] at c36n3
                 try have c36n4 := eq_true c36n3
                 try have c36n5 := decide_eq_true c36n3
                 try have c36n6 := eq_false (Nat.not_lt.2 c36n3)
                 have c36b0 := eq_true c36
                 have c36b1 : decide ((((((x4_1 ++ (⟨#[99, 111, 117, 110, 116, 32]⟩ : ByteArray)) ++ t287) ++ (⟨#[32]⟩ : ByteArray)) ++ t288) ++ (⟨#[10, 117, 112, 32]⟩ : ByteArray)).size + t289.size ≤ 9223372036854775807) = true := decide_eq_true c36
                 try have c36b2 : (9223372036854775807 < (((((x4_1 ++ (⟨#[99, 111, 117, 110, 116, 32]⟩ : ByteArray)) ++ t287) ++ (⟨#[32]⟩ : ByteArray)) ++ t288) ++ (⟨#[10, 117, 112, 32]⟩ : ByteArray)).size + t289.size) = False := eq_false (Nat.not_lt.2 c36)
                 by_cases c37 : ((((((x4_1 ++ (⟨#[99, 111, 117, 110, 116, 32]⟩ : ByteArray)) ++ t287) ++ (⟨#[32]⟩ : ByteArray)) ++ t288) ++ (⟨#[10, 117, 112, 32]⟩ : ByteArray)) ++ t289).size + 6 ≤ 9223372036854775807
                 ·rw [if_pos c37] at H
                  have c37n3 := c37
                  try simp only [ByteArray.size_append, show (⟨#[10, 117, 112, 32]⟩ : ByteArray).size = 4 from rfl, show (⟨#[32]⟩ : ByteArray).size = 1 from rfl, show (⟨#[99, 111, 117, 110, 116, 32]⟩ : ByteArray).size = 6 from rfl] at c37n3
                  try have c37n4 := eq_true c37n3
                  try have c37n5 := decide_eq_true c37n3
                  try have c37n6 := eq_false (Nat.not_lt.2 c37n3)
                  have c37b0 := eq_true c37
                  have c37b1 : decide (((((((x4_1 ++ (⟨#[99, 111, 117, 110, 116, 32]⟩ : ByteArray)) ++ t287) ++ (⟨#[32]⟩ : ByteArray)) ++ t288) ++ (⟨#[10, 117, 112, 32]⟩ : ByteArray)) ++ t289).size + 6 ≤ 9223372036854775807) = true := decide_eq_true c37
                  try have c37b2 : (9223372036854775807 < ((((((x4_1 ++ (⟨#[99, 111, 117, 110, 116, 32]⟩ : ByteArray)) ++ t287) ++ (⟨#[32]⟩ : ByteArray)) ++ t288) ++ (⟨#[10, 117, 112, 32]⟩ : ByteArray)) ++ t289).size + 6) = False := eq_false (Nat.not_lt.2 c37)
                  replace H := Option.bind_eq_some_iff.mp H
                  obtain ⟨t290, A380, H⟩ := H
                  replace H : (if (((((((x4_1 ++ (⟨#[99, 111, 117, 110, 116, 32]⟩ : ByteArray)) ++ t287) ++ (⟨#[32]⟩ : ByteArray)) ++ t288) ++ (⟨#[10, 117, 112, 32]⟩ : ByteArray)) ++ t289) ++ (⟨#[10, 100, 111, 119, 110, 32]⟩ : ByteArray)).size + t290.size ≤ 9223372036854775807 then (if ((((((((x4_1 ++ (⟨#[99, 111, 117, 110, 116, 32]⟩ : ByteArray)) ++ t287) ++ (⟨#[32]⟩ : ByteArray)) ++ t288) ++ (⟨#[10, 117, 112, 32]⟩ : ByteArray)) ++ t289) ++ (⟨#[10, 100, 111, 119, 110, 32]⟩ : ByteArray)) ++ t290).size + 1 ≤ 9223372036854775807 then (some (((((((((x4_1 ++ (⟨#[99, 111, 117, 110, 116, 32]⟩ : ByteArray)) ++ t287) ++ (⟨#[32]⟩ : ByteArray)) ++ t288) ++ (⟨#[10, 117, 112, 32]⟩ : ByteArray)) ++ t289) ++ (⟨#[10, 100, 111, 119, 110, 32]⟩ : ByteArray)) ++ t290) ++ (⟨#[10]⟩ : ByteArray), true)) else (none)) else (none)) = some (r1, r2) := H
                  have A38 := Aside0.mk A380
                  clear A380
                  by_cases c39 : (((((((x4_1 ++ (⟨#[99, 111, 117, 110, 116, 32]⟩ : ByteArray)) ++ t287) ++ (⟨#[32]⟩ : ByteArray)) ++ t288) ++ (⟨#[10, 117, 112, 32]⟩ : ByteArray)) ++ t289) ++ (⟨#[10, 100, 111, 119, 110, 32]⟩ : ByteArray)).size + t290.size ≤ 9223372036854775807
                  ·rw [if_pos c39] at H
                   have c39n3 := c39
                   try simp only [ByteArray.size_append, show (⟨#[10, 100, 111, 119, 110, 32]⟩ : ByteArray).size = 6 from rfl, show (⟨#[10, 117, 112, 32]⟩ : ByteArray).size = 4 from rfl, show (⟨#[32]⟩ : ByteArray).size = 1 from rfl, show (⟨#[99, 111, 117, 110, 116, 32]⟩ : ByteArray).size = 6 from rfl] at c39n3
                   try have c39n4 := eq_true c39n3
                   try have c39n5 := decide_eq_true c39n3
                   try have c39n6 := eq_false (Nat.not_lt.2 c39n3)
                   have c39b0 := eq_true c39
                   have c39b1 : decide ((((((((x4_1 ++ (⟨#[99, 111, 117, 110, 116, 32]⟩ : ByteArray)) ++ t287) ++ (⟨#[32]⟩ : ByteArray)) ++ t288) ++ (⟨#[10, 117, 112, 32]⟩ : ByteArray)) ++ t289) ++ (⟨#[10, 100, 111, 119, 110, 32]⟩ : ByteArray)).size + t290.size ≤ 9223372036854775807) = true := decide_eq_true c39
                   try have c39b2 : (9223372036854775807 < (((((((x4_1 ++ (⟨#[99, 111, 117, 110, 116, 32]⟩ : ByteArray)) ++ t287) ++ (⟨#[32]⟩ : ByteArray)) ++ t288) ++ (⟨#[10, 117, 112, 32]⟩ : ByteArray)) ++ t289) ++ (⟨#[10, 100, 111, 119, 110, 32]⟩ : ByteArray)).size + t290.size) = False := eq_false (Nat.not_lt.2 c39)
                   by_cases c40 : ((((((((x4_1 ++ (⟨#[99, 111, 117, 110, 116, 32]⟩ : ByteArray)) ++ t287) ++ (⟨#[32]⟩ : ByteArray)) ++ t288) ++ (⟨#[10, 117, 112, 32]⟩ : ByteArray)) ++ t289) ++ (⟨#[10, 100, 111, 119, 110, 32]⟩ : ByteArray)) ++ t290).size + 1 ≤ 9223372036854775807
                   ·rw [if_pos c40] at H
                    have c40n3 := c40
                    try simp only [ByteArray.size_append, show (⟨#[10, 100, 111, 119, 110, 32]⟩ : ByteArray).size = 6 from rfl, show (⟨#[10, 117, 112, 32]⟩ : ByteArray).size = 4 from rfl, show (⟨#[32]⟩ : ByteArray).size = 1 from rfl, show (⟨#[99, 111, 117, 110, 116, 32]⟩ : ByteArray).size = 6 from rfl] at c40n3
                    try have c40n4 := eq_true c40n3
                    try have c40n5 := decide_eq_true c40n3
                    try have c40n6 := eq_false (Nat.not_lt.2 c40n3)
                    have c40b0 := eq_true c40
                    have c40b1 : decide (((((((((x4_1 ++ (⟨#[99, 111, 117, 110, 116, 32]⟩ : ByteArray)) ++ t287) ++ (⟨#[32]⟩ : ByteArray)) ++ t288) ++ (⟨#[10, 117, 112, 32]⟩ : ByteArray)) ++ t289) ++ (⟨#[10, 100, 111, 119, 110, 32]⟩ : ByteArray)) ++ t290).size + 1 ≤ 9223372036854775807) = true := decide_eq_true c40
                    try have c40b2 : (9223372036854775807 < ((((((((x4_1 ++ (⟨#[99, 111, 117, 110, 116, 32]⟩ : ByteArray)) ++ t287) ++ (⟨#[32]⟩ : ByteArray)) ++ t288) ++ (⟨#[10, 117, 112, 32]⟩ : ByteArray)) ++ t289) ++ (⟨#[10, 100, 111, 119, 110, 32]⟩ : ByteArray)) ++ t290).size + 1) = False := eq_false (Nat.not_lt.2 c40)
                    simp only [Option.some.injEq, Prod.mk.injEq] at H
                    obtain ⟨rfl, rfl⟩ := H
                    obtain ⟨hcz41_0, hcz41_1, hcz41_2, hcz41_3, hcz41_4, hcz41_5, hcz41_6, hcz41_7, hcz41_8, hcz41_9, hcz41_10, hcz41_11, hfz41_0, hfz41_1, hfz41_2, hfz41_3, hfz41_4, hfz41_5, hfz41_6, hfz41_7, hfz41_8, hfz41_9, hfz41_10, hfz41_11⟩ := bc12_ BK279.out
                    try go_wp2_with (first | ((with_reducible refine gate_dst (N := 6) rfl ?_); refine be_ (N := 6) (cs := #[.slice none 0 0, .int .i64 0, .int .i64 0, .slice none 0 0, .int .i64 0, .int .i64 0, .int .i64 0, .int .i64 0]) (t := 52) ?_; intro gb286 hg w42 hbox hb; have BK286 := ak_ hbox; have GW286 := ak_ ((gs_ hg : w.heap.size ≤ gb286)); have GE286 := ak_ ((gs_ hg : w.heap.size ≤ gb286)); replace HB := ak_ (below_step hb_ hb); have NB279_286 := ak_ (nl_ hg (bk_ BK279)); have NB286_279 := ak_ (ng_ hg (bk_ BK279)); replace BK279 := ak_ (blk_below (bk_ BK279) hb); clear hb hbox hg; have hnb43 := NB286_279.out; have hnc43 := NB279_286.out; obtain ⟨hcz44_0, hcz44_1, hcz44_2, hcz44_3, hcz44_4, hcz44_5, hcz44_6, hcz44_7, hfz44_0, hfz44_1, hfz44_2, hfz44_3, hfz44_4, hfz44_5, hfz44_6, hfz44_7⟩ := bc8_ BK286.out))
                    have n0_ : Aside0 (((((((((w42.setCell ⟨gb286, 0, none⟩ (.slice A0_4 l0_4.length c0_4)).setCell ⟨gb286, 1, none⟩ (.int .i64 a0_5)).setCell ⟨gb286, 2, none⟩ (.int .i64 a0_6)).setCell ⟨gb286, 3, none⟩ (.slice A0_7 l0_7.length c0_7)).setCell ⟨gb286, 4, none⟩ (.int .i64 a0_8)).setCell ⟨gb286, 5, none⟩ (.int .i64 a0_9)).setCell ⟨gb286, 6, none⟩ (.int .i64 a0_10)).setCell ⟨gb286, 7, none⟩ (.int .i64 a0_11)).heap[gb279]? = some (.cells #[.int .i64 a0_0, .int .i64 a0_1, .int .i64 a0_2, .slice A0_3 l0_3.length c0_3, .slice A0_4 l0_4.length c0_4, .int .i64 a0_5, .int .i64 a0_6, .slice A0_7 l0_7.length c0_7, .int .i64 a0_8, .int .i64 a0_9, .int .i64 a0_10, .int .i64 a0_11] 54 (0, 0))) := ⟨by (with_reducible repeat (first | refine blk_drewN ?_ _ | refine blk_drew ?_ | refine blk_alloc ?_ _)); refine blk_far ?_ NB279_286.out _; (with_reducible repeat (first | refine blk_drewN ?_ _ | refine blk_drew ?_ | refine blk_alloc ?_ _)); refine blk_far ?_ NB279_286.out _; (with_reducible repeat (first | refine blk_drewN ?_ _ | refine blk_drew ?_ | refine blk_alloc ?_ _)); refine blk_far ?_ NB279_286.out _; (with_reducible repeat (first | refine blk_drewN ?_ _ | refine blk_drew ?_ | refine blk_alloc ?_ _)); refine blk_far ?_ NB279_286.out _; (with_reducible repeat (first | refine blk_drewN ?_ _ | refine blk_drew ?_ | refine blk_alloc ?_ _)); refine blk_far ?_ NB279_286.out _; (with_reducible repeat (first | refine blk_drewN ?_ _ | refine blk_drew ?_ | refine blk_alloc ?_ _)); refine blk_far ?_ NB279_286.out _; (with_reducible repeat (first | refine blk_drewN ?_ _ | refine blk_drew ?_ | refine blk_alloc ?_ _)); refine blk_far ?_ NB279_286.out _; (with_reducible repeat (first | refine blk_drewN ?_ _ | refine blk_drew ?_ | refine blk_alloc ?_ _)); refine blk_far ?_ NB279_286.out _; (with_reducible repeat (first | refine blk_drewN ?_ _ | refine blk_drew ?_ | refine blk_alloc ?_ _)); exact BK279.out⟩
                    have n1_ : Aside0 (((((((((w42.setCell ⟨gb286, 0, none⟩ (.slice A0_4 l0_4.length c0_4)).setCell ⟨gb286, 1, none⟩ (.int .i64 a0_5)).setCell ⟨gb286, 2, none⟩ (.int .i64 a0_6)).setCell ⟨gb286, 3, none⟩ (.slice A0_7 l0_7.length c0_7)).setCell ⟨gb286, 4, none⟩ (.int .i64 a0_8)).setCell ⟨gb286, 5, none⟩ (.int .i64 a0_9)).setCell ⟨gb286, 6, none⟩ (.int .i64 a0_10)).setCell ⟨gb286, 7, none⟩ (.int .i64 a0_11)).heap[gb286]? = some (.cells #[.slice A0_4 l0_4.length c0_4, .int .i64 a0_5, .int .i64 a0_6, .slice A0_7 l0_7.length c0_7, .int .i64 a0_8, .int .i64 a0_9, .int .i64 a0_10, .int .i64 a0_11] 52 (0, 0))) := ⟨by (with_reducible repeat (first | refine blk_drewN ?_ _ | refine blk_drew ?_ | refine blk_alloc ?_ _)); refine blk_put (cs := #[.slice A0_4 l0_4.length c0_4, .int .i64 a0_5, .int .i64 a0_6, .slice A0_7 l0_7.length c0_7, .int .i64 a0_8, .int .i64 a0_9, .int .i64 a0_10, .int .i64 0]) ?_ 7 _ rfl; (with_reducible repeat (first | refine blk_drewN ?_ _ | refine blk_drew ?_ | refine blk_alloc ?_ _)); refine blk_put (cs := #[.slice A0_4 l0_4.length c0_4, .int .i64 a0_5, .int .i64 a0_6, .slice A0_7 l0_7.length c0_7, .int .i64 a0_8, .int .i64 a0_9, .int .i64 0, .int .i64 0]) ?_ 6 _ rfl; (with_reducible repeat (first | refine blk_drewN ?_ _ | refine blk_drew ?_ | refine blk_alloc ?_ _)); refine blk_put (cs := #[.slice A0_4 l0_4.length c0_4, .int .i64 a0_5, .int .i64 a0_6, .slice A0_7 l0_7.length c0_7, .int .i64 a0_8, .int .i64 0, .int .i64 0, .int .i64 0]) ?_ 5 _ rfl; (with_reducible repeat (first | refine blk_drewN ?_ _ | refine blk_drew ?_ | refine blk_alloc ?_ _)); refine blk_put (cs := #[.slice A0_4 l0_4.length c0_4, .int .i64 a0_5, .int .i64 a0_6, .slice A0_7 l0_7.length c0_7, .int .i64 0, .int .i64 0, .int .i64 0, .int .i64 0]) ?_ 4 _ rfl; (with_reducible repeat (first | refine blk_drewN ?_ _ | refine blk_drew ?_ | refine blk_alloc ?_ _)); refine blk_put (cs := #[.slice A0_4 l0_4.length c0_4, .int .i64 a0_5, .int .i64 a0_6, .slice none 0 0, .int .i64 0, .int .i64 0, .int .i64 0, .int .i64 0]) ?_ 3 _ rfl; (with_reducible repeat (first | refine blk_drewN ?_ _ | refine blk_drew ?_ | refine blk_alloc ?_ _)); refine blk_put (cs := #[.slice A0_4 l0_4.length c0_4, .int .i64 a0_5, .int .i64 0, .slice none 0 0, .int .i64 0, .int .i64 0, .int .i64 0, .int .i64 0]) ?_ 2 _ rfl; (with_reducible repeat (first | refine blk_drewN ?_ _ | refine blk_drew ?_ | refine blk_alloc ?_ _)); refine blk_put (cs := #[.slice A0_4 l0_4.length c0_4, .int .i64 0, .int .i64 0, .slice none 0 0, .int .i64 0, .int .i64 0, .int .i64 0, .int .i64 0]) ?_ 1 _ rfl; (with_reducible repeat (first | refine blk_drewN ?_ _ | refine blk_drew ?_ | refine blk_alloc ?_ _)); refine blk_put (cs := #[.slice none 0 0, .int .i64 0, .int .i64 0, .slice none 0 0, .int .i64 0, .int .i64 0, .int .i64 0, .int .i64 0]) ?_ 0 _ rfl; (with_reducible repeat (first | refine blk_drewN ?_ _ | refine blk_drew ?_ | refine blk_alloc ?_ _)); exact BK286.out⟩
                    have n2_ : Aside0 (Below w.heap.size w ((((((((w42.setCell ⟨gb286, 0, none⟩ (.slice A0_4 l0_4.length c0_4)).setCell ⟨gb286, 1, none⟩ (.int .i64 a0_5)).setCell ⟨gb286, 2, none⟩ (.int .i64 a0_6)).setCell ⟨gb286, 3, none⟩ (.slice A0_7 l0_7.length c0_7)).setCell ⟨gb286, 4, none⟩ (.int .i64 a0_8)).setCell ⟨gb286, 5, none⟩ (.int .i64 a0_9)).setCell ⟨gb286, 6, none⟩ (.int .i64 a0_10)).setCell ⟨gb286, 7, none⟩ (.int .i64 a0_11))) := ⟨hb_⟩
                    (try clear BK279)
                    (try clear BK286)
                    (try clear HB)
                    generalize ((((((((w42.setCell ⟨gb286, 0, none⟩ (.slice A0_4 l0_4.length c0_4)).setCell ⟨gb286, 1, none⟩ (.int .i64 a0_5)).setCell ⟨gb286, 2, none⟩ (.int .i64 a0_6)).setCell ⟨gb286, 3, none⟩ (.slice A0_7 l0_7.length c0_7)).setCell ⟨gb286, 4, none⟩ (.int .i64 a0_8)).setCell ⟨gb286, 5, none⟩ (.int .i64 a0_9)).setCell ⟨gb286, 6, none⟩ (.int .i64 a0_10)).setCell ⟨gb286, 7, none⟩ (.int .i64 a0_11)) = w45 at n0_ n1_ n2_ ⊢
                    have BK279 := n0_
                    have BK286 := n1_
                    have HB := n2_
                    clear n0_ n1_ n2_
                    replace BK279 := ak_ (blk_drew BK279.out)
                    replace BK286 := ak_ (blk_drew BK286.out)
                    replace HB := ak_ (below_drew1 HB.out)
                    refine start_ (n := 24) (S := fun w' => w'.cell? ⟨gb286, 0, none⟩ = some (.slice A0_4 l0_4.length c0_4) ∧ w'.cell? ⟨gb286, 1, none⟩ = some (.int .i64 a0_5) ∧ w'.cell? ⟨gb286, 2, none⟩ = some (.int .i64 a0_6) ∧ w'.cell? ⟨gb286, 3, none⟩ = some (.slice A0_7 l0_7.length c0_7) ∧ w'.cell? ⟨gb286, 4, none⟩ = some (.int .i64 a0_8) ∧ w'.cell? ⟨gb286, 5, none⟩ = some (.int .i64 a0_9) ∧ w'.cell? ⟨gb286, 6, none⟩ = some (.int .i64 a0_10) ∧ w'.cell? ⟨gb286, 7, none⟩ = some (.int .i64 a0_11)) (ds := []) #[false, false, false, false, false, false, false, false, false, false, false, false, false, false, false, false, false, false, false, false, false, false, false, false] (by kernel_rfl) rfl rfl ⟨(blk_cell BK286.out 0).trans rfl, (blk_cell BK286.out 1).trans rfl, (blk_cell BK286.out 2).trans rfl, (blk_cell BK286.out 3).trans rfl, (blk_cell BK286.out 4).trans rfl, (blk_cell BK286.out 5).trans rfl, (blk_cell BK286.out 6).trans rfl, (blk_cell BK286.out 7).trans rfl⟩ (fun hHeld => ?_); refine with_tabW spec_SetupText.tab9 spec_SetupText.bits9 (fun HT_ HW_ => ?_)
                    generalize w45.drew = w46 at BK279 BK286 HB hHeld ⊢
                    refine pure_ (i := 0) (N := some 47) (v := ?_) (a' := ?_) #[true, false, false, false, false, false, false, false, false, false, false, false, false, false, false, false, false, false, false, false, false, false, false, false] rfl rfl (any_of HT_.out (by kernel_rfl)) (fun _ _ _ h => h) (Or.inl ⟨by rfl, ?_⟩) ?_ ?_; rotate_left; (intro w'; go_simp; with_reducible rfl); rotate_left; (simp only [Act.put, List.setIfInBounds_toArray, List.set_cons_zero, List.set_cons_succ, i64_w, i32_w]; rfl)
                    refine pure_ (i := 1) (N := some 48) (v := ?_) (a' := ?_) #[true, true, false, false, false, false, false, false, false, false, false, false, false, false, false, false, false, false, false, false, false, false, false, false] rfl rfl (any_of HT_.out (by kernel_rfl)) (fun _ _ _ h => h) (Or.inl ⟨by rfl, ?_⟩) ?_ ?_; rotate_left; (intro w'; go_simp; with_reducible rfl); rotate_left; (simp only [Act.put, List.setIfInBounds_toArray, List.set_cons_zero, List.set_cons_succ, i64_w, i32_w]; rfl)
                    refine pure_ (i := 2) (N := some 49) (v := ?_) (a' := ?_) #[true, true, true, false, false, false, false, false, false, false, false, false, false, false, false, false, false, false, false, false, false, false, false, false] rfl rfl (any_of HT_.out (by kernel_rfl)) (fun _ _ _ h => h) (Or.inl ⟨by rfl, ?_⟩) ?_ ?_; rotate_left; (intro w'; go_simp; with_reducible rfl); rotate_left; (simp only [Act.put, List.setIfInBounds_toArray, List.set_cons_zero, List.set_cons_succ, i64_w, i32_w]; rfl)
                    refine pure_ (i := 7) (N := some 54) (v := ?_) (a' := ?_) #[true, true, true, false, false, false, false, true, false, false, false, false, false, false, false, false, false, false, false, false, false, false, false, false] rfl rfl (any_of HT_.out (by kernel_rfl)) (fun _ _ _ h => h) (Or.inl ⟨by rfl, ?_⟩) ?_ ?_; rotate_left; (intro w'; go_simp; with_reducible rfl); rotate_left; (simp only [Act.put, List.setIfInBounds_toArray, List.set_cons_zero, List.set_cons_succ, i64_w, i32_w]; rfl)
                    refine pure_ (i := 12) (N := some 59) (v := ?_) (a' := ?_) #[true, true, true, false, false, false, false, true, false, false, false, false, true, false, false, false, false, false, false, false, false, false, false, false] rfl rfl (any_of HT_.out (by kernel_rfl)) (fun _ _ _ h => h) (Or.inl ⟨by rfl, ?_⟩) ?_ ?_; rotate_left; (intro w'; go_simp; with_reducible rfl); rotate_left; (simp only [Act.put, List.setIfInBounds_toArray, List.set_cons_zero, List.set_cons_succ, i64_w, i32_w]; rfl)
                    refine pure_ (i := 17) (N := some 64) (v := ?_) (a' := ?_) #[true, true, true, false, false, false, false, true, false, false, false, false, true, false, false, false, false, true, false, false, false, false, false, false] rfl rfl (any_of HT_.out (by kernel_rfl)) (fun _ _ _ h => h) (Or.inl ⟨by rfl, ?_⟩) ?_ ?_; rotate_left; (intro w'; go_simp; with_reducible rfl); rotate_left; (simp only [Act.put, List.setIfInBounds_toArray, List.set_cons_zero, List.set_cons_succ, i64_w, i32_w]; rfl)
                    refine take_ (i := 3) (N := some 50) (v := ?_) (a' := ?_) #[true, true, true, true, false, false, false, true, false, false, false, false, true, false, false, false, false, true, false, false, false, false, false, false] rfl rfl (take_ofW HT_.out HW_.out (by kernel_rfl)) (fun _ _ _ h => h) (Or.inl ⟨by rfl, ?_⟩) hHeld ?_ ?_; rotate_left; (rintro w' ⟨s0, s1, s2, s3, s4, s5, s6, s7⟩; go_simp; with_reducible rfl); rotate_left; (simp only [Act.put, List.setIfInBounds_toArray, List.set_cons_zero, List.set_cons_succ, i64_w, i32_w]; rfl)
                    refine take_ (i := 8) (N := some 55) (v := ?_) (a' := ?_) #[true, true, true, true, false, false, false, true, true, false, false, false, true, false, false, false, false, true, false, false, false, false, false, false] rfl rfl (take_ofW HT_.out HW_.out (by kernel_rfl)) (fun _ _ _ h => h) (Or.inl ⟨by rfl, ?_⟩) hHeld ?_ ?_; rotate_left; (rintro w' ⟨s0, s1, s2, s3, s4, s5, s6, s7⟩; go_simp; with_reducible rfl); rotate_left; (simp only [Act.put, List.setIfInBounds_toArray, List.set_cons_zero, List.set_cons_succ, i64_w, i32_w]; rfl)
                    refine take_ (i := 13) (N := some 60) (v := ?_) (a' := ?_) #[true, true, true, true, false, false, false, true, true, false, false, false, true, true, false, false, false, true, false, false, false, false, false, false] rfl rfl (take_ofW HT_.out HW_.out (by kernel_rfl)) (fun _ _ _ h => h) (Or.inl ⟨by rfl, ?_⟩) hHeld ?_ ?_; rotate_left; (rintro w' ⟨s0, s1, s2, s3, s4, s5, s6, s7⟩; go_simp; with_reducible rfl); rotate_left; (simp only [Act.put, List.setIfInBounds_toArray, List.set_cons_zero, List.set_cons_succ, i64_w, i32_w]; rfl)
                    refine take_ (i := 18) (N := some 65) (v := ?_) (a' := ?_) #[true, true, true, true, false, false, false, true, true, false, false, false, true, true, false, false, false, true, true, false, false, false, false, false] rfl rfl (take_ofW HT_.out HW_.out (by kernel_rfl)) (fun _ _ _ h => h) (Or.inl ⟨by rfl, ?_⟩) hHeld ?_ ?_; rotate_left; (rintro w' ⟨s0, s1, s2, s3, s4, s5, s6, s7⟩; go_simp; with_reducible rfl); rotate_left; (simp only [Act.put, List.setIfInBounds_toArray, List.set_cons_zero, List.set_cons_succ, i64_w, i32_w]; rfl)
                    refine one_ (i := 4) (N := some 51) #[true, true, true, true, true, false, false, true, true, false, false, false, true, true, false, false, false, true, true, false, false, false, false, false] rfl rfl (one_of HT_.out (by kernel_rfl)) (by decide) (fun K hK => ?_)
                    refine goes_ Tryd.func24 (by kernel_rfl) rfl #[.int .i64 a0_10] (by rfl) rfl rfl (ma1_ rfl) ?_
                    with_reducible refine (spec_l01Num.calls k1 a0_10 t287 _ A29.out).mono ?_
                    rintro e w47 ⟨rfl, hb⟩
                    refine ⟨_, rfl, ?_⟩
                    replace BK279 := ak_ (blk_below (bk_ BK279) hb)
                    replace BK286 := ak_ (blk_below (bk_ BK286) hb)
                    replace HB := ak_ (below_step hb_ hb)
                    (try clear hb)
                    (try clear hb2)
                    (try clear hk)
                    (try clear hi)
                    refine hK.out _ _ ⟨(blk_cell BK286.out 0).trans rfl, (blk_cell BK286.out 1).trans rfl, (blk_cell BK286.out 2).trans rfl, (blk_cell BK286.out 3).trans rfl, (blk_cell BK286.out 4).trans rfl, (blk_cell BK286.out 5).trans rfl, (blk_cell BK286.out 6).trans rfl, (blk_cell BK286.out 7).trans rfl⟩ (fun hHeld => ?_)
                    clear hK K
                    refine norm_ (a' := ?_) ?_ ?_
                    rotate_left
                    ·show Act.put _ (some 51) _ = _
                     simp only [Act.put, List.setIfInBounds_toArray, List.set_cons_zero, List.set_cons_succ, i64_w, i32_w]
                     rfl
                    refine pure_ (i := 5) (N := some 52) (v := ?_) (a' := ?_) #[true, true, true, true, true, true, false, true, true, false, false, false, true, true, false, false, false, true, true, false, false, false, false, false] rfl rfl (any_of HT_.out (by kernel_rfl)) (fun _ _ _ h => h) (Or.inl ⟨by rfl, ?_⟩) ?_ ?_; rotate_left; (intro w'; go_simp; with_reducible rfl); rotate_left; (simp only [Act.put, List.setIfInBounds_toArray, List.set_cons_zero, List.set_cons_succ, i64_w, i32_w]; rfl)
                    refine pure_ (i := 6) (N := some 53) (v := ?_) (a' := ?_) #[true, true, true, true, true, true, true, true, true, false, false, false, true, true, false, false, false, true, true, false, false, false, false, false] rfl rfl (any_of HT_.out (by kernel_rfl)) (fun _ _ _ h => h) (Or.inl ⟨by rfl, ?_⟩) ?_ ?_; rotate_left; (intro w'; go_simp; with_reducible rfl); rotate_left; (simp only [Act.put, List.setIfInBounds_toArray, List.set_cons_zero, List.set_cons_succ, i64_w, i32_w]; rfl)
                    refine one_ (i := 9) (N := some 56) #[true, true, true, true, true, true, true, true, true, true, false, false, true, true, false, false, false, true, true, false, false, false, false, false] rfl rfl (one_of HT_.out (by kernel_rfl)) (by decide) (fun K hK => ?_)
                    refine goes_ Tryd.func24 (by kernel_rfl) rfl #[.int .i64 a0_11] (by rfl) rfl rfl (ma1_ rfl) ?_
                    with_reducible refine (spec_l01Num.calls k1 a0_11 t288 _ A32.out).mono ?_
                    rintro e w48 ⟨rfl, hb⟩
                    refine ⟨_, rfl, ?_⟩
                    replace BK279 := ak_ (blk_below (bk_ BK279) hb)
                    replace BK286 := ak_ (blk_below (bk_ BK286) hb)
                    replace HB := ak_ (below_step hb_ hb)
                    (try clear hb)
                    (try clear hb2)
                    (try clear hk)
                    (try clear hi)
                    refine hK.out _ _ ⟨(blk_cell BK286.out 0).trans rfl, (blk_cell BK286.out 1).trans rfl, (blk_cell BK286.out 2).trans rfl, (blk_cell BK286.out 3).trans rfl, (blk_cell BK286.out 4).trans rfl, (blk_cell BK286.out 5).trans rfl, (blk_cell BK286.out 6).trans rfl, (blk_cell BK286.out 7).trans rfl⟩ (fun hHeld => ?_)
                    clear hK K
                    refine norm_ (a' := ?_) ?_ ?_
                    rotate_left
                    ·show Act.put _ (some 56) _ = _
                     simp only [Act.put, List.setIfInBounds_toArray, List.set_cons_zero, List.set_cons_succ, i64_w, i32_w]
                     rfl
                    refine pure_ (i := 10) (N := some 57) (v := ?_) (a' := ?_) #[true, true, true, true, true, true, true, true, true, true, true, false, true, true, false, false, false, true, true, false, false, false, false, false] rfl rfl (any_of HT_.out (by kernel_rfl)) (fun _ _ _ h => h) (Or.inl ⟨by rfl, ?_⟩) ?_ ?_; rotate_left; (intro w'; go_simp; with_reducible rfl); rotate_left; (simp only [Act.put, List.setIfInBounds_toArray, List.set_cons_zero, List.set_cons_succ, i64_w, i32_w]; rfl)
                    refine pure_ (i := 11) (N := some 58) (v := ?_) (a' := ?_) #[true, true, true, true, true, true, true, true, true, true, true, true, true, true, false, false, false, true, true, false, false, false, false, false] rfl rfl (any_of HT_.out (by kernel_rfl)) (fun _ _ _ h => h) (Or.inl ⟨by rfl, ?_⟩) ?_ ?_; rotate_left; (intro w'; go_simp; with_reducible rfl); rotate_left; (simp only [Act.put, List.setIfInBounds_toArray, List.set_cons_zero, List.set_cons_succ, i64_w, i32_w]; rfl)
                    refine one_ (i := 14) (N := some 61) #[true, true, true, true, true, true, true, true, true, true, true, true, true, true, true, false, false, true, true, false, false, false, false, false] rfl rfl (one_of HT_.out (by kernel_rfl)) (by decide) (fun K hK => ?_)
                    refine goes_ Tryd.func11 (by kernel_rfl) rfl #[.agg #[.slice A0_4 l0_4.length c0_4, .int .i64 a0_5, .int .i64 a0_6]] (by rfl) rfl rfl (ma1_ rfl) ?_
                    with_reducible refine (spec_SideText.calls k1 _ _ l0_4 a0_5 a0_6 t289 _ ?side1 ?side2 A35.out).mono ?_
                    (case side1 => exact kc_ HR0_4)
                    (case side2 => exact HC0_4.out)
                    rintro e w49 ⟨rfl, hb⟩
                    refine ⟨_, rfl, ?_⟩
                    replace BK279 := ak_ (blk_below (bk_ BK279) hb)
                    replace BK286 := ak_ (blk_below (bk_ BK286) hb)
                    replace HB := ak_ (below_step hb_ hb)
                    (try clear hb)
                    (try clear hb2)
                    (try clear hk)
                    (try clear hi)
                    refine hK.out _ _ ⟨(blk_cell BK286.out 0).trans rfl, (blk_cell BK286.out 1).trans rfl, (blk_cell BK286.out 2).trans rfl, (blk_cell BK286.out 3).trans rfl, (blk_cell BK286.out 4).trans rfl, (blk_cell BK286.out 5).trans rfl, (blk_cell BK286.out 6).trans rfl, (blk_cell BK286.out 7).trans rfl⟩ (fun hHeld => ?_)
                    clear hK K
                    refine norm_ (a' := ?_) ?_ ?_
                    rotate_left
                    ·show Act.put _ (some 61) _ = _
                     simp only [Act.put, List.setIfInBounds_toArray, List.set_cons_zero, List.set_cons_succ, i64_w, i32_w]
                     rfl
                    refine pure_ (i := 15) (N := some 62) (v := ?_) (a' := ?_) #[true, true, true, true, true, true, true, true, true, true, true, true, true, true, true, true, false, true, true, false, false, false, false, false] rfl rfl (any_of HT_.out (by kernel_rfl)) (fun _ _ _ h => h) (Or.inl ⟨by rfl, ?_⟩) ?_ ?_; rotate_left; (intro w'; go_simp; with_reducible rfl); rotate_left; (simp only [Act.put, List.setIfInBounds_toArray, List.set_cons_zero, List.set_cons_succ, i64_w, i32_w]; rfl)
                    refine pure_ (i := 16) (N := some 63) (v := ?_) (a' := ?_) #[true, true, true, true, true, true, true, true, true, true, true, true, true, true, true, true, true, true, true, false, false, false, false, false] rfl rfl (any_of HT_.out (by kernel_rfl)) (fun _ _ _ h => h) (Or.inl ⟨by rfl, ?_⟩) ?_ ?_; rotate_left; (intro w'; go_simp; with_reducible rfl); rotate_left; (simp only [Act.put, List.setIfInBounds_toArray, List.set_cons_zero, List.set_cons_succ, i64_w, i32_w]; rfl)
                    refine one_ (i := 19) (N := some 66) #[true, true, true, true, true, true, true, true, true, true, true, true, true, true, true, true, true, true, true, true, false, false, false, false] rfl rfl (one_of HT_.out (by kernel_rfl)) (by decide) (fun K hK => ?_)
                    refine goes_ Tryd.func11 (by kernel_rfl) rfl #[.agg #[.slice A0_7 l0_7.length c0_7, .int .i64 a0_8, .int .i64 a0_9]] (by rfl) rfl rfl (ma1_ rfl) ?_
                    with_reducible refine (spec_SideText.calls k1 _ _ l0_7 a0_8 a0_9 t290 _ ?side1 ?side2 A38.out).mono ?_
                    (case side1 => exact kc_ HR0_7)
                    (case side2 => exact HC0_7.out)
                    rintro e w50 ⟨rfl, hb⟩
                    refine ⟨_, rfl, ?_⟩
                    replace BK279 := ak_ (blk_below (bk_ BK279) hb)
                    replace BK286 := ak_ (blk_below (bk_ BK286) hb)
                    replace HB := ak_ (below_step hb_ hb)
                    (try clear hb)
                    (try clear hb2)
                    (try clear hk)
                    (try clear hi)
                    refine hK.out _ _ ⟨(blk_cell BK286.out 0).trans rfl, (blk_cell BK286.out 1).trans rfl, (blk_cell BK286.out 2).trans rfl, (blk_cell BK286.out 3).trans rfl, (blk_cell BK286.out 4).trans rfl, (blk_cell BK286.out 5).trans rfl, (blk_cell BK286.out 6).trans rfl, (blk_cell BK286.out 7).trans rfl⟩ (fun hHeld => ?_)
                    clear hK K
                    refine norm_ (a' := ?_) ?_ ?_
                    rotate_left
                    ·show Act.put _ (some 66) _ = _
                     simp only [Act.put, List.setIfInBounds_toArray, List.set_cons_zero, List.set_cons_succ, i64_w, i32_w]
                     rfl
                    refine pure_ (i := 20) (N := some 67) (v := ?_) (a' := ?_) #[true, true, true, true, true, true, true, true, true, true, true, true, true, true, true, true, true, true, true, true, true, false, false, false] rfl rfl (any_of HT_.out (by kernel_rfl)) (fun _ _ _ h => h) (Or.inl ⟨by rfl, ?_⟩) ?_ ?_; rotate_left; (intro w'; go_simp; with_reducible rfl); rotate_left; (simp only [Act.put, List.setIfInBounds_toArray, List.set_cons_zero, List.set_cons_succ, i64_w, i32_w]; rfl)
                    refine pure_ (i := 21) (N := some 68) (v := ?_) (a' := ?_) #[true, true, true, true, true, true, true, true, true, true, true, true, true, true, true, true, true, true, true, true, true, true, false, false] rfl rfl (any_of HT_.out (by kernel_rfl)) (fun _ _ _ h => h) (Or.inl ⟨by rfl, ?_⟩) ?_ ?_; rotate_left; (intro w'; go_simp; with_reducible rfl); rotate_left; (simp only [Act.put, List.setIfInBounds_toArray, List.set_cons_zero, List.set_cons_succ, i64_w, i32_w]; rfl)
                    refine pure_ (i := 22) (N := some 2) (v := ?_) (a' := ?_) #[true, true, true, true, true, true, true, true, true, true, true, true, true, true, true, true, true, true, true, true, true, true, true, false] rfl rfl (any_of HT_.out (by kernel_rfl)) (fun _ _ _ h => h) (Or.inl ⟨by rfl, ?_⟩) ?_ ?_; rotate_left; (intro w'; go_simp; with_reducible rfl); rotate_left; (simp only [Act.put, List.setIfInBounds_toArray, List.set_cons_zero, List.set_cons_succ, i64_w, i32_w]; rfl)
                    refine pure_ (i := 23) (N := some 3) (v := ?_) (a' := ?_) #[true, true, true, true, true, true, true, true, true, true, true, true, true, true, true, true, true, true, true, true, true, true, true, true] rfl rfl (any_of HT_.out (by kernel_rfl)) (fun _ _ _ h => h) (Or.inl ⟨by rfl, ?_⟩) ?_ ?_; rotate_left; (intro w'; go_simp; with_reducible rfl); rotate_left; (simp only [Act.put, List.setIfInBounds_toArray, List.set_cons_zero, List.set_cons_succ, i64_w, i32_w]; rfl)
                    refine done_ (done_of HT_.out (by kernel_rfl)) ?_
                    try go_wp2
                    go_ret2
                    exact ⟨ew_, hb_⟩
                   ·rw [if_neg c40] at H
                    exact absurd H (by simp)
                  ·rw [if_neg c39] at H
                   exact absurd H (by simp)
                 ·rw [if_neg c37] at H
                  exact absurd H (by simp)
                ·rw [if_neg c36] at H
                 exact absurd H (by simp)
               ·rw [if_neg c34] at H
                exact absurd H (by simp)
              ·rw [if_neg c33] at H
               exact absurd H (by simp)
             ·rw [if_neg c31] at H
              exact absurd H (by simp)
            ·rw [if_neg c30] at H
             exact absurd H (by simp)
           ·rw [if_neg c28] at H
            exact absurd H (by simp)
       ·rw [if_neg c12] at H
        exact absurd H (by simp)
      ·rw [if_neg c11] at H
       exact absurd H (by simp)
     ·rw [if_neg c9] at H
      exact absurd H (by simp)
    ·rw [if_neg c8] at H
     exact absurd H (by simp)
   ·rw [if_neg c6] at H
    exact absurd H (by simp)
  ·rw [if_neg c5] at H
   exact absurd H (by simp)
 ·replace c3 := Bool.eq_false_iff.mpr c3
  subst c3
  rw [if_neg (show ¬ (false = true) by decide)] at H
  simp only [Option.some.injEq, Prod.mk.injEq] at H
  obtain ⟨rfl, rfl⟩ := H
  go_enter Tryd.func16, Tryd.ntmps16
  go_wp2_with (first | ((with_reducible refine gate_dst (N := 1) rfl ?_); refine be_ (N := 1) (cs := #[.int .i64 a0_0, .int .i64 a0_1, .int .i64 a0_2, .slice A0_3 l0_3.length c0_3, .slice A0_4 l0_4.length c0_4, .int .i64 a0_5, .int .i64 a0_6, .slice A0_7 l0_7.length c0_7, .int .i64 a0_8, .int .i64 a0_9, .int .i64 a0_10, .int .i64 a0_11]) (t := 54) ?_; intro gb279 hg w51 hbox hb; have BK279 := ak_ hbox; have GW279 := ak_ ((gs_ hg : w.heap.size ≤ gb279)); have GE279 := ak_ ((gs_ hg : w.heap.size ≤ gb279)); replace HB := ak_ (below_step hb_ hb); clear hb hbox hg; obtain ⟨hcz52_0, hcz52_1, hcz52_2, hcz52_3, hcz52_4, hcz52_5, hcz52_6, hcz52_7, hcz52_8, hcz52_9, hcz52_10, hcz52_11, hfz52_0, hfz52_1, hfz52_2, hfz52_3, hfz52_4, hfz52_5, hfz52_6, hfz52_7, hfz52_8, hfz52_9, hfz52_10, hfz52_11⟩ := bc12_ BK279.out) | ((with_reducible refine gate_callee (f := 34) rfl ?_); refine goesL_ (some 8) rfl rfl Tryd.func34 (by kernel_rfl) rfl #[.agg #[.int .i64 a0_0, .int .i64 a0_1, .int .i64 a0_2, .slice A0_3 l0_3.length c0_3, .slice A0_4 l0_4.length c0_4, .int .i64 a0_5, .int .i64 a0_6, .slice A0_7 l0_7.length c0_7, .int .i64 a0_8, .int .i64 a0_9, .int .i64 a0_10, .int .i64 a0_11]] rfl (ma1_ rfl) ?_; (with_reducible refine (spec_SetupOk.calls k a0_0 a0_1 a0_2 _ _ l0_3 _ _ l0_4 a0_5 a0_6 _ _ l0_7 a0_8 a0_9 a0_10 a0_11 false _ ?side1 ?side2 ?side3 ?side4 ?side5 ?side6 A2.out).mono ?_); (case side1 => exact kc_ HR0_3); (case side2 => exact HC0_3.out); (case side3 => exact kc_ HR0_4); (case side4 => exact HC0_4.out); (case side5 => exact kc_ HR0_7); (case side6 => exact HC0_7.out); rintro e w53 ⟨rfl, hb⟩; refine ⟨_, rfl, ?_⟩; replace BK279 := ak_ (blk_below (bk_ BK279) hb); replace HB := ak_ (below_step hb_ hb); (try clear hb)))
  go_ret2
  exact ⟨ew_, hb_⟩

end Go.Proofs.YtblfoelddakelaaDoor.U
