-- PRINTED by print.py (a twelfth state) out of the translation. Not trusted: Lean checks it.
import Derived.Test.YtfjjlipfjddaiaaBo0
import Derived.Test.YtfjjlipfjddaiaaBo22
namespace Go.Proofs.Ytfjjlipfjddaiaa.Bo
open Go.RowKit Go.Proofs.YtfjjlipfjddaiaaW.PrintWords Go.Proofs.YtfjjlipfjddaiaaW.PrintLast Go.Proofs.YtfjjlipfjddaiaaW.PrintMore
attribute [local go_sem] max2_int min2_int max_two min_two max_three min_three max_four min_four   -- for this text's walks alone
set_option linter.unusedVariables false
set_option linter.unusedSimpArgs false

/-! ### spec_NotesOk: function 84 -/
def spec_NotesOk.l0 : Nat → List (S109) → Int → Option (Bool)
  | 0, _, _ => none
  | k + 1, x0, x3 => if x3 < (x0.length : Int) then (if 0 ≤ x3 then ((spec_l02Tick.f ((rd_T109 x0 x3).f0)).bind fun t469 => (if t469 = true then ((spec_l05Count.f ((rd_T109 x0 x3).f1)).bind fun t471 => (if t471 = true then (if x3 > 0 then (if 0 ≤ (wrap64 (x3 - 1)) then (if (wrap64 (x3 - 1)) < (x0.length : Int) then (if ((rd_T109 x0 (wrap64 (x3 - 1))).f0) > ((rd_T109 x0 x3).f0) then (some false) else (spec_NotesOk.l0 k x0 (wrap64 (x3 + 1)))) else (none)) else (none)) else (spec_NotesOk.l0 k x0 (wrap64 (x3 + 1)))) else (some false))) else (some false))) else (none)) else (some true)
def spec_NotesOk.f (k : Nat) (l0 : List (S109)) : Option (Bool) := if (l0.length : Int) > 200 then (some false) else (spec_NotesOk.l0 k l0 0)
theorem spec_NotesOk.mono_l : ∀ k, (∀ y0 y1, LeO (spec_NotesOk.l0 k y0 y1) (spec_NotesOk.l0 (k + 1) y0 y1))
  | 0 => fun _ _ r h => by simp [spec_NotesOk.l0] at h
  | k + 1 => by
    have ih0 := spec_NotesOk.mono_l k
    · intro y0 y1
      unfold spec_NotesOk.l0
      repeat' with_reducible first | exact ih0 _ _ | exact LeO.refl _ | exact LeO.none _ | refine LeO.ite ?_ ?_ | refine LeO.bind ?_ (fun _ => ?_)
theorem spec_NotesOk.mono : ∀ a0 k, LeO (spec_NotesOk.f k a0) (spec_NotesOk.f (k + 1) a0) := by
  intro a0 k
  have ih0 := spec_NotesOk.mono_l k
  unfold spec_NotesOk.f
  repeat' with_reducible first | exact ih0 _ _ | exact LeO.refl _ | exact LeO.none _ | refine LeO.ite ?_ ?_ | refine LeO.bind ?_ (fun _ => ?_)
def spec_NotesOk.T6 : Bool × List (List Nat × List Nat) := (true, [([], []), ([], []), ([0, 1], [0, 1]), ([2], [2]), ([3], [3]), ([4], [4]), ([5], [5]), ([6, 5], [6]), ([7], [7]), ([7], [7]), ([8, 9, 7], [7, 8, 9]), ([10, 7], [7, 10]), ([11, 7], [7, 11]), ([12, 7, 7], [7, 12]), ([13, 7], [7, 13]), ([7, 14], [7, 14]), ([15, 13], [15]), ([16], [16]), ([17, 16], [16, 17]), ([18, 16, 16], [16, 18]), ([19], [19]), ([19], [19]), ([21, 19], [19, 21]), ([20, 22, 19], [19, 20, 22]), ([23, 19], [19, 23]), ([24, 19], [19, 24]), ([19], [19]), ([19], [19]), ([26, 27, 19], [19, 26, 27]), ([28, 19], [19, 28]), ([29, 19], [19, 29]), ([25, 30, 19], [19, 25, 30]), ([19, 31, 16], [16, 19, 31]), ([16, 32], [16, 32])])
def spec_NotesOk.B6 : List Nat := [0, 0, 3, 7, 15, 31, 63, 127, 255, 255, 1023, 2047, 4095, 8191, 16383, 32767, 65535, 131071, 262143, 524287, 1048575, 1048575, 3145727, 8388607, 16777215, 33554431, 1048575, 1048575, 202375167, 470810623, 1007681535, 2147483647, 4294967295, 8589934591]
theorem spec_NotesOk.tab6 : rtab .any (opsOf Try.f84 6) = spec_NotesOk.T6 := by kernel_rfl
theorem spec_NotesOk.bits6 : waitsOk spec_NotesOk.T6.2 spec_NotesOk.B6 = true := by kernel_rfl
abbrev spec_NotesOk.d0 : Array Bool := #[false, false, false, false, false, false, false, false, false, false, false, false, false, false, false, false, false, false, false, false, false, false, false, false, false, false, false, false, false, false, false, false, false, false]
abbrev spec_NotesOk.d1 : Array Bool := #[true, false, false, false, false, false, false, false, false, false, false, false, false, false, false, false, false, false, false, false, false, false, false, false, false, false, false, false, false, false, false, false, false, false]
abbrev spec_NotesOk.d2 : Array Bool := #[true, true, false, false, false, false, false, false, false, false, false, false, false, false, false, false, false, false, false, false, false, false, false, false, false, false, false, false, false, false, false, false, false, false]
abbrev spec_NotesOk.d3 : Array Bool := #[true, true, true, false, false, false, false, false, false, false, false, false, false, false, false, false, false, false, false, false, false, false, false, false, false, false, false, false, false, false, false, false, false, false]
abbrev spec_NotesOk.d4 : Array Bool := #[true, true, true, true, false, false, false, false, false, false, false, false, false, false, false, false, false, false, false, false, false, false, false, false, false, false, false, false, false, false, false, false, false, false]
abbrev spec_NotesOk.d5 : Array Bool := #[true, true, true, true, true, false, false, false, false, false, false, false, false, false, false, false, false, false, false, false, false, false, false, false, false, false, false, false, false, false, false, false, false, false]
abbrev spec_NotesOk.d6 : Array Bool := #[true, true, true, true, true, true, false, false, false, false, false, false, false, false, false, false, false, false, false, false, false, false, false, false, false, false, false, false, false, false, false, false, false, false]
abbrev spec_NotesOk.d7 : Array Bool := #[true, true, true, true, true, true, true, false, false, false, false, false, false, false, false, false, false, false, false, false, false, false, false, false, false, false, false, false, false, false, false, false, false, false]
abbrev spec_NotesOk.d8 : Array Bool := #[true, true, true, true, true, true, true, true, false, false, false, false, false, false, false, false, false, false, false, false, false, false, false, false, false, false, false, false, false, false, false, false, false, false]
abbrev spec_NotesOk.d9 : Array Bool := #[true, true, true, true, true, true, true, true, true, false, false, false, false, false, false, false, false, false, false, false, false, false, false, false, false, false, false, false, false, false, false, false, false, false]
abbrev spec_NotesOk.d10 : Array Bool := #[true, true, true, true, true, true, true, true, true, true, false, false, false, false, false, false, false, false, false, false, false, false, false, false, false, false, false, false, false, false, false, false, false, false]
abbrev spec_NotesOk.d11 : Array Bool := #[true, true, true, true, true, true, true, true, true, true, true, false, false, false, false, false, false, false, false, false, false, false, false, false, false, false, false, false, false, false, false, false, false, false]
abbrev spec_NotesOk.d12 : Array Bool := #[true, true, true, true, true, true, true, true, true, true, true, true, false, false, false, false, false, false, false, false, false, false, false, false, false, false, false, false, false, false, false, false, false, false]
abbrev spec_NotesOk.d13 : Array Bool := #[true, true, true, true, true, true, true, true, true, true, true, true, true, false, false, false, false, false, false, false, false, false, false, false, false, false, false, false, false, false, false, false, false, false]
abbrev spec_NotesOk.d14 : Array Bool := #[true, true, true, true, true, true, true, true, true, true, true, true, true, true, false, false, false, false, false, false, false, false, false, false, false, false, false, false, false, false, false, false, false, false]
abbrev spec_NotesOk.d15 : Array Bool := #[true, true, true, true, true, true, true, true, true, true, true, true, true, true, true, false, false, false, false, false, false, false, false, false, false, false, false, false, false, false, false, false, false, false]
abbrev spec_NotesOk.d16 : Array Bool := #[true, true, true, true, true, true, true, true, true, true, true, true, true, true, true, true, false, false, false, false, false, false, false, false, false, false, false, false, false, false, false, false, false, false]
abbrev spec_NotesOk.d17 : Array Bool := #[true, true, true, true, true, true, true, true, true, true, true, true, true, true, true, true, true, false, false, false, false, false, false, false, false, false, false, false, false, false, false, false, false, false]
abbrev spec_NotesOk.d18 : Array Bool := #[true, true, true, true, true, true, true, true, true, true, true, true, true, true, true, true, true, true, false, false, false, false, false, false, false, false, false, false, false, false, false, false, false, false]
abbrev spec_NotesOk.d19 : Array Bool := #[true, true, true, true, true, true, true, true, true, true, true, true, true, true, true, true, true, true, true, false, false, false, false, false, false, false, false, false, false, false, false, false, false, false]
abbrev spec_NotesOk.d20 : Array Bool := #[true, true, true, true, true, true, true, true, true, true, true, true, true, true, true, true, true, true, true, true, false, false, false, false, false, false, false, false, false, false, false, false, false, false]
abbrev spec_NotesOk.d21 : Array Bool := #[true, true, true, true, true, true, true, true, true, true, true, true, true, true, true, true, true, true, true, true, true, false, false, false, false, false, false, false, false, false, false, false, false, false]
abbrev spec_NotesOk.d22 : Array Bool := #[true, true, true, true, true, true, true, true, true, true, true, true, true, true, true, true, true, true, true, true, true, true, false, false, false, false, false, false, false, false, false, false, false, false]
abbrev spec_NotesOk.d23 : Array Bool := #[true, true, true, true, true, true, true, true, true, true, true, true, true, true, true, true, true, true, true, true, true, true, true, false, false, false, false, false, false, false, false, false, false, false]
abbrev spec_NotesOk.d24 : Array Bool := #[true, true, true, true, true, true, true, true, true, true, true, true, true, true, true, true, true, true, true, true, true, true, true, true, false, false, false, false, false, false, false, false, false, false]
abbrev spec_NotesOk.d25 : Array Bool := #[true, true, true, true, true, true, true, true, true, true, true, true, true, true, true, true, true, true, true, true, true, true, true, true, true, false, false, false, false, false, false, false, false, false]
abbrev spec_NotesOk.d26 : Array Bool := #[true, true, true, true, true, true, true, true, true, true, true, true, true, true, true, true, true, true, true, true, true, true, true, true, true, false, true, false, false, false, false, false, false, false]
abbrev spec_NotesOk.d27 : Array Bool := #[true, true, true, true, true, true, true, true, true, true, true, true, true, true, true, true, true, true, true, true, true, true, true, true, true, false, true, true, false, false, false, false, false, false]
abbrev spec_NotesOk.d28 : Array Bool := #[true, true, true, true, true, true, true, true, true, true, true, true, true, true, true, true, true, true, true, true, true, true, true, true, true, false, true, true, true, false, false, false, false, false]
abbrev spec_NotesOk.d29 : Array Bool := #[true, true, true, true, true, true, true, true, true, true, true, true, true, true, true, true, true, true, true, true, true, true, true, true, true, false, true, true, true, true, false, false, false, false]
abbrev spec_NotesOk.d30 : Array Bool := #[true, true, true, true, true, true, true, true, true, true, true, true, true, true, true, true, true, true, true, true, true, true, true, true, true, true, false, false, false, false, false, false, false, false]
abbrev spec_NotesOk.d31 : Array Bool := #[true, true, true, true, true, true, true, true, true, true, true, true, true, true, true, true, true, true, true, true, true, true, true, true, true, true, true, false, false, false, false, false, false, false]
abbrev spec_NotesOk.d32 : Array Bool := #[true, true, true, true, true, true, true, true, true, true, true, true, true, true, true, true, true, true, true, true, true, true, true, true, true, true, true, true, false, false, false, false, false, false]
abbrev spec_NotesOk.d33 : Array Bool := #[true, true, true, true, true, true, true, true, true, true, true, true, true, true, true, true, true, true, true, true, true, true, true, true, true, true, true, true, true, false, false, false, false, false]
abbrev spec_NotesOk.d34 : Array Bool := #[true, true, true, true, true, true, true, true, true, true, true, true, true, true, true, true, true, true, true, true, true, true, true, true, true, true, true, true, true, true, false, false, false, false]
abbrev spec_NotesOk.d35 : Array Bool := #[true, true, true, true, true, true, true, true, true, true, true, true, true, true, true, true, true, true, true, true, true, true, true, true, true, true, true, true, true, true, true, false, false, false]
abbrev spec_NotesOk.d36 : Array Bool := #[true, true, true, true, true, true, true, true, true, true, true, true, true, true, true, true, true, true, true, true, true, true, true, true, true, true, true, true, true, true, true, true, false, false]
abbrev spec_NotesOk.d37 : Array Bool := #[true, true, true, true, true, true, true, true, true, true, true, true, true, true, true, true, true, true, true, true, true, true, true, true, true, true, true, true, true, true, true, true, true, false]
abbrev spec_NotesOk.d38 : Array Bool := #[true, true, true, true, true, true, true, true, true, true, true, true, true, true, true, true, true, true, true, true, true, true, true, true, true, true, true, true, true, true, true, true, true, true]
set_option maxHeartbeats 8000000 in
set_option maxRecDepth 100000 in
theorem spec_NotesOk.calls (k : Nat) (A0 : Option Addr) (c0 : Nat) (l0 : List (S109)) (r : Bool) (w : World) (hr0 : Kd.C k109 w A0 l0.length l0) (hc0 : l0.length ≤ c0) (h : spec_NotesOk.f k l0 = some r) :
  Calls Try.prog 84 #[.slice A0 l0.length c0] w fun e w' => e = .returned (.bool r) ∧ Below w.heap.size w w' := by
 have HR0 := ak_ hr0
 have HC0 := ak_ hc0
 clear hr0 hc0
 have HB := ak_ (Below.refl w.heap.size w)
 have H : (if (l0.length : Int) > 200 then (some false) else (spec_NotesOk.l0 k l0 0)) = some r := h
 clear h
 by_cases c2 : (l0.length : Int) > 200
 ·rw [if_pos c2] at H
  have c2b0 : decide (200 < (l0.length : Int)) = true := decide_eq_true c2
  have c2b1 : decide (200 < l0.length) = true := decide_eq_true (by omega)
  clear c2
  obtain rfl := Option.some.inj H
  go_enter Try.func84, Try.ntmps84
  go_wp2
  go_ret
  exact ⟨ew_, hb_⟩
 ·rw [if_neg c2] at H
  have c2b0 : decide (200 < (l0.length : Int)) = false := decide_eq_false c2
  have c2b1 : decide (200 < l0.length) = false := decide_eq_false (by omega)
  clear c2
  have H' := ak_ H
  clear H
  go_enter Try.func84, Try.ntmps84
  go_wp2
  go_loopg [3] k (fun kq v3 w' => ∃ (x3_1 : Int), v3 = .int .i64 x3_1 ∧ Aside0 (spec_NotesOk.l0 kq l0 x3_1 = some r) ∧ Aside0 (kq ≤ k) ∧ Aside0 (Below w.heap.size w w'))
  case atStart => exact ⟨(0), (by first | rfl | (simp; done) | (simp [*]; done)), H', ⟨Nat.le_refl _⟩, ⟨hb_⟩⟩
  case round =>
   clear H'
   try clear c2
   try clear c2b0
   try clear c2b1
   try clear p2
   obtain ⟨x3_1, rfl, HA, HK1, HB⟩ := hrel
   cases gk with
   | zero => exact absurd HA.out (by simp [spec_NotesOk.l0])
   | succ k1 =>
    have H := HA.out
    clear HA
    simp only [spec_NotesOk.l0] at H
    by_cases c3 : x3_1 < (l0.length : Int)
    ·rw [if_pos c3] at H
     have c3b0 : decide (x3_1 < (l0.length : Int)) = true := decide_eq_true c3
     clear c3
     by_cases c4 : 0 ≤ x3_1
     ·rw [if_pos c4] at H
      have c4b0 : decide (0 ≤ x3_1) = true := decide_eq_true c4
      clear c4
      replace H := Option.bind_eq_some_iff.mp H
      obtain ⟨t469, A50, H⟩ := H
      replace H : (if t469 = true then ((spec_l05Count.f ((rd_T109 l0 x3_1).f1)).bind fun t471 => (if t471 = true then (if x3_1 > 0 then (if 0 ≤ (wrap64 (x3_1 - 1)) then (if (wrap64 (x3_1 - 1)) < (l0.length : Int) then (if ((rd_T109 l0 (wrap64 (x3_1 - 1))).f0) > ((rd_T109 l0 x3_1).f0) then (some false) else (spec_NotesOk.l0 k1 l0 (wrap64 (x3_1 + 1)))) else (none)) else (none)) else (spec_NotesOk.l0 k1 l0 (wrap64 (x3_1 + 1)))) else (some false))) else (some false)) = some r := H
      have A5 := ak_ A50
      clear A50
      by_cases c6 : t469 = true
      ·subst c6
       rw [if_pos rfl] at H
       replace H := Option.bind_eq_some_iff.mp H
       obtain ⟨t471, A70, H⟩ := H
       replace H : (if t471 = true then (if x3_1 > 0 then (if 0 ≤ (wrap64 (x3_1 - 1)) then (if (wrap64 (x3_1 - 1)) < (l0.length : Int) then (if ((rd_T109 l0 (wrap64 (x3_1 - 1))).f0) > ((rd_T109 l0 x3_1).f0) then (some false) else (spec_NotesOk.l0 k1 l0 (wrap64 (x3_1 + 1)))) else (none)) else (none)) else (spec_NotesOk.l0 k1 l0 (wrap64 (x3_1 + 1)))) else (some false)) = some r := H
       have A7 := ak_ A70
       clear A70
       by_cases c8 : t471 = true
       ·subst c8
        rw [if_pos rfl] at H
        by_cases c9 : x3_1 > 0
        ·rw [if_pos c9] at H
         have c9b0 : decide (0 < x3_1) = true := decide_eq_true c9
         clear c9
         obtain ⟨ji10, hji10⟩ : ∃ j_ : Int, (wrap64 (x3_1 - 1)) = j_ := ⟨_, rfl⟩
         replace H : (if 0 ≤ (ji10) then (if (ji10) < (l0.length : Int) then (if ((rd_T109 l0 (ji10)).f0) > ((rd_T109 l0 x3_1).f0) then (some false) else (spec_NotesOk.l0 k1 l0 (wrap64 (x3_1 + 1)))) else (none)) else (none)) = some r := by first | (rw [hji10] at H; exact H) | (simp only [hji10] at H ⊢; exact H)
         (try rw [hji10] at A5)
         (try rw [hji10] at A7)
         have hji10w : (IntKind.i64.wrap (x3_1 - 1)) = ji10 := (i64_w _).trans hji10
         by_cases c11 : 0 ≤ (ji10)
         ·rw [if_pos c11] at H
          have c11b0 : decide (0 ≤ (ji10)) = true := decide_eq_true c11
          clear c11
          by_cases c12 : (ji10) < (l0.length : Int)
          ·rw [if_pos c12] at H
           have c12b0 : decide ((ji10) < (l0.length : Int)) = true := decide_eq_true c12
           clear c12
           by_cases c13 : ((rd_T109 l0 (ji10)).f0) > ((rd_T109 l0 x3_1).f0)
           ·rw [if_pos c13] at H
            have c13b0 : decide (((rd_T109 l0 x3_1).f0) < ((rd_T109 l0 (ji10)).f0)) = true := decide_eq_true c13
            clear c13
            obtain rfl := Option.some.inj H
            try go_wp2
            replace HB := ak_ (below_drew1 HB.out)
            have p468 : 0 ≤ (x3_1 : Int) := of_decide_eq_true (by first | (with_reducible assumption) | assumption)
            have q468 : x3_1 < (l0.length : Int) := of_decide_eq_true (by first | (with_reducible assumption) | assumption)
            obtain ⟨ad468, e468, hx468_0, hx468_1⟩ := at_T109 HR0.out x3_1 p468 q468
            have hw468_1 := hx468_1
            have hw468_0 := hx468_0
            cases e468
            replace hx468_0 := cx_ HB hx468_0
            replace hx468_1 := cx_ HB hx468_1
            replace p468 := eq_true p468
            replace q468 := eq_true q468
            have p470 : 0 ≤ (x3_1 : Int) := of_decide_eq_true (by first | (with_reducible assumption) | assumption)
            have q470 : x3_1 < (l0.length : Int) := of_decide_eq_true (by first | (with_reducible assumption) | assumption)
            obtain ⟨ad470, e470, hx470_0, hx470_1⟩ := at_T109 HR0.out x3_1 p470 q470
            have hw470_1 := hx470_1
            have hw470_0 := hx470_0
            obtain rfl : ad468 = ad470 := (by injection e470)
            replace hx470_0 := cx_ HB hx470_0
            replace hx470_1 := cx_ HB hx470_1
            replace p470 := eq_true p470
            replace q470 := eq_true q470
            have p472 : 0 ≤ ((ji10) : Int) := of_decide_eq_true (by first | (with_reducible assumption) | assumption)
            have q472 : (ji10) < (l0.length : Int) := of_decide_eq_true (by first | (with_reducible assumption) | assumption)
            obtain ⟨ad472, e472, hx472_0, hx472_1⟩ := at_T109 HR0.out (ji10) p472 q472
            have hw472_1 := hx472_1
            have hw472_0 := hx472_0
            obtain rfl : ad468 = ad472 := (by injection e472)
            replace hx472_0 := cx_ HB hx472_0
            replace hx472_1 := cx_ HB hx472_1
            replace p472 := eq_true p472
            replace q472 := eq_true q472
            have p473 : 0 ≤ (x3_1 : Int) := of_decide_eq_true (by first | (with_reducible assumption) | assumption)
            have q473 : x3_1 < (l0.length : Int) := of_decide_eq_true (by first | (with_reducible assumption) | assumption)
            obtain ⟨ad473, e473, hx473_0, hx473_1⟩ := at_T109 HR0.out x3_1 p473 q473
            have hw473_1 := hx473_1
            have hw473_0 := hx473_0
            obtain rfl : ad468 = ad473 := (by injection e473)
            replace hx473_0 := cx_ HB hx473_0
            replace hx473_1 := cx_ HB hx473_1
            replace p473 := eq_true p473
            replace q473 := eq_true q473
            refine start_ (n := 34) (S := fun w' => w'.cell? (ad468.add ((x3_1).toNat * 2)) = some (.int .i64 ((rd_T109 l0 x3_1).f0)) ∧ w'.cell? ⟨(ad468.add ((x3_1).toNat * 2)).block, (ad468.add ((x3_1).toNat * 2)).off + 1, none⟩ = some (.int .i64 ((rd_T109 l0 x3_1).f1)) ∧ w'.cell? (ad468.add ((x3_1).toNat * 2)) = some (.int .i64 ((rd_T109 l0 x3_1).f0)) ∧ w'.cell? ⟨(ad468.add ((x3_1).toNat * 2)).block, (ad468.add ((x3_1).toNat * 2)).off + 1, none⟩ = some (.int .i64 ((rd_T109 l0 x3_1).f1)) ∧ w'.cell? (ad468.add (((ji10)).toNat * 2)) = some (.int .i64 ((rd_T109 l0 (ji10)).f0)) ∧ w'.cell? ⟨(ad468.add (((ji10)).toNat * 2)).block, (ad468.add (((ji10)).toNat * 2)).off + 1, none⟩ = some (.int .i64 ((rd_T109 l0 (ji10)).f1)) ∧ w'.cell? (ad468.add ((x3_1).toNat * 2)) = some (.int .i64 ((rd_T109 l0 x3_1).f0)) ∧ w'.cell? ⟨(ad468.add ((x3_1).toNat * 2)).block, (ad468.add ((x3_1).toNat * 2)).off + 1, none⟩ = some (.int .i64 ((rd_T109 l0 x3_1).f1))) (ds := []) spec_NotesOk.d0 (by kernel_rfl) rfl rfl ⟨((HB.out.cell (World.block_lt_of_cell? w _ hw468_0)).trans hw468_0), ((HB.out.cell (World.block_lt_of_cell? w _ hw468_1)).trans hw468_1), ((HB.out.cell (World.block_lt_of_cell? w _ hw470_0)).trans hw470_0), ((HB.out.cell (World.block_lt_of_cell? w _ hw470_1)).trans hw470_1), ((HB.out.cell (World.block_lt_of_cell? w _ hw472_0)).trans hw472_0), ((HB.out.cell (World.block_lt_of_cell? w _ hw472_1)).trans hw472_1), ((HB.out.cell (World.block_lt_of_cell? w _ hw473_0)).trans hw473_0), ((HB.out.cell (World.block_lt_of_cell? w _ hw473_1)).trans hw473_1)⟩ (fun hHeld => ?_); refine with_tabW spec_NotesOk.tab6 spec_NotesOk.bits6 (fun HT_ HW_ => ?_)
            generalize wr.drew = w14 at HB hx468_0 hx468_1 hx470_0 hx470_1 hx472_0 hx472_1 hx473_0 hx473_1 hHeld ⊢
            refine p1_ (i := 0) (N := some 13) spec_NotesOk.d1 (any_of HT_.out (by kernel_rfl)) ?_
            refine p1_ (i := 1) (N := some 14) spec_NotesOk.d2 (any_of HT_.out (by kernel_rfl)) ?_
            refine p1_ (i := 2) (N := some 15) spec_NotesOk.d3 (any_of HT_.out (by kernel_rfl)) ?_
            refine p1_ (i := 3) (N := some 16) spec_NotesOk.d4 (any_of HT_.out (by kernel_rfl)) ?_
            refine take_ (i := 4) (N := some 17) (v := ?_) (a' := ?_) spec_NotesOk.d5 rfl rfl (take_ofW HT_.out HW_.out (by kernel_rfl)) (fun _ _ _ h => h) (Or.inl ⟨by rfl, ?_⟩) hHeld ?_ ?_; rotate_left; (rintro w' ⟨s0, s1, s2, s3, s4, s5, s6, s7⟩; go_simp; with_reducible rfl); rotate_left; (simp only [Act.put, List.setIfInBounds_toArray, List.set_cons_zero, List.set_cons_succ, i64_w, i32_w]; rfl)
            refine one_ (i := 5) (N := some 18) spec_NotesOk.d6 rfl rfl (one_of HT_.out (by kernel_rfl)) (by decide) (fun K hK => ?_)
            refine goes_ Try.func79 (by kernel_rfl) rfl #[.int .i64 ((rd_T109 l0 x3_1).f0)] (by rfl) rfl rfl (ma1_ rfl) ?_
            with_reducible refine (spec_l02Tick.calls ((rd_T109 l0 x3_1).f0) true _ A5.out).mono ?_
            rintro e w' ⟨rfl, ⟨nd, rfl⟩⟩
            refine ⟨_, rfl, ?_⟩
            refine hK.out _ _ ⟨((HB.out.cell (World.block_lt_of_cell? w _ hw468_0)).trans hw468_0), ((HB.out.cell (World.block_lt_of_cell? w _ hw468_1)).trans hw468_1), ((HB.out.cell (World.block_lt_of_cell? w _ hw470_0)).trans hw470_0), ((HB.out.cell (World.block_lt_of_cell? w _ hw470_1)).trans hw470_1), ((HB.out.cell (World.block_lt_of_cell? w _ hw472_0)).trans hw472_0), ((HB.out.cell (World.block_lt_of_cell? w _ hw472_1)).trans hw472_1), ((HB.out.cell (World.block_lt_of_cell? w _ hw473_0)).trans hw473_0), ((HB.out.cell (World.block_lt_of_cell? w _ hw473_1)).trans hw473_1)⟩ (fun hHeld => ?_)
            clear hK K
            refine norm_ (a' := ?_) ?_ ?_
            rotate_left
            ·show Act.put _ (some 18) _ = _
             simp only [Act.put, List.setIfInBounds_toArray, List.set_cons_zero, List.set_cons_succ, i64_w, i32_w]
             rfl
            refine p1_ (i := 6) (N := some 19) spec_NotesOk.d7 (any_of HT_.out (by kernel_rfl)) ?_
            refine p1_ (i := 7) (N := some 20) spec_NotesOk.d8 (any_of HT_.out (by kernel_rfl)) ?_
            refine p1_ (i := 8) (N := some 21) spec_NotesOk.d9 (any_of HT_.out (by kernel_rfl)) ?_
            refine p1_ (i := 9) (N := some 22) spec_NotesOk.d10 (any_of HT_.out (by kernel_rfl)) ?_
            refine p1_ (i := 10) (N := some 23) spec_NotesOk.d11 (any_of HT_.out (by kernel_rfl)) ?_
            refine p1_ (i := 11) (N := some 24) spec_NotesOk.d12 (any_of HT_.out (by kernel_rfl)) ?_
            refine take_ (i := 12) (N := some 25) (v := ?_) (a' := ?_) spec_NotesOk.d13 rfl rfl (take_ofW HT_.out HW_.out (by kernel_rfl)) (fun _ _ _ h => h) (Or.inl ⟨by rfl, ?_⟩) hHeld ?_ ?_; rotate_left; (rintro w' ⟨s0, s1, s2, s3, s4, s5, s6, s7⟩; go_simp; with_reducible rfl); rotate_left; (simp only [Act.put, List.setIfInBounds_toArray, List.set_cons_zero, List.set_cons_succ, i64_w, i32_w]; rfl)
            refine one_ (i := 13) (N := some 26) spec_NotesOk.d14 rfl rfl (one_of HT_.out (by kernel_rfl)) (by decide) (fun K hK => ?_)
            refine goes_ Try.func89 (by kernel_rfl) rfl #[.int .i64 ((rd_T109 l0 x3_1).f1)] (by rfl) rfl rfl (ma1_ rfl) ?_
            with_reducible refine (spec_l05Count.calls ((rd_T109 l0 x3_1).f1) true _ A7.out).mono ?_
            rintro e w' ⟨rfl, ⟨nd, rfl⟩⟩
            refine ⟨_, rfl, ?_⟩
            refine hK.out _ _ ⟨((HB.out.cell (World.block_lt_of_cell? w _ hw468_0)).trans hw468_0), ((HB.out.cell (World.block_lt_of_cell? w _ hw468_1)).trans hw468_1), ((HB.out.cell (World.block_lt_of_cell? w _ hw470_0)).trans hw470_0), ((HB.out.cell (World.block_lt_of_cell? w _ hw470_1)).trans hw470_1), ((HB.out.cell (World.block_lt_of_cell? w _ hw472_0)).trans hw472_0), ((HB.out.cell (World.block_lt_of_cell? w _ hw472_1)).trans hw472_1), ((HB.out.cell (World.block_lt_of_cell? w _ hw473_0)).trans hw473_0), ((HB.out.cell (World.block_lt_of_cell? w _ hw473_1)).trans hw473_1)⟩ (fun hHeld => ?_)
            clear hK K
            refine norm_ (a' := ?_) ?_ ?_
            rotate_left
            ·show Act.put _ (some 26) _ = _
             simp only [Act.put, List.setIfInBounds_toArray, List.set_cons_zero, List.set_cons_succ, i64_w, i32_w]
             rfl
            refine p1_ (i := 14) (N := some 27) spec_NotesOk.d15 (any_of HT_.out (by kernel_rfl)) ?_
            refine p1_ (i := 15) (N := some 28) spec_NotesOk.d16 (any_of HT_.out (by kernel_rfl)) ?_
            refine p1_ (i := 16) (N := some 29) spec_NotesOk.d17 (any_of HT_.out (by kernel_rfl)) ?_
            refine p1_ (i := 17) (N := some 30) spec_NotesOk.d18 (any_of HT_.out (by kernel_rfl)) ?_
            refine p1_ (i := 18) (N := some 31) spec_NotesOk.d19 (any_of HT_.out (by kernel_rfl)) ?_
            refine p1_ (i := 19) (N := some 32) spec_NotesOk.d20 (any_of HT_.out (by kernel_rfl)) ?_
            refine p1_ (i := 20) (N := some 33) spec_NotesOk.d21 (any_of HT_.out (by kernel_rfl)) ?_
            refine p1_ (i := 21) (N := some 34) spec_NotesOk.d22 (any_of HT_.out (by kernel_rfl)) ?_
            refine p1_ (i := 22) (N := some 35) spec_NotesOk.d23 (any_of HT_.out (by kernel_rfl)) ?_
            refine p1_ (i := 23) (N := some 36) spec_NotesOk.d24 (any_of HT_.out (by kernel_rfl)) ?_
            refine p1_ (i := 24) (N := some 37) spec_NotesOk.d25 (any_of HT_.out (by kernel_rfl)) ?_
            refine p1_ (i := 26) (N := some 39) spec_NotesOk.d26 (any_of HT_.out (by kernel_rfl)) ?_
            refine p1_ (i := 27) (N := some 40) spec_NotesOk.d27 (any_of HT_.out (by kernel_rfl)) ?_
            refine p1_ (i := 28) (N := some 41) spec_NotesOk.d28 (any_of HT_.out (by kernel_rfl)) ?_
            refine p1_ (i := 29) (N := some 42) spec_NotesOk.d29 (any_of HT_.out (by kernel_rfl)) ?_
            refine take_ (i := 25) (N := some 38) (v := ?_) (a' := ?_) spec_NotesOk.d34 rfl rfl (take_ofW HT_.out HW_.out (by kernel_rfl)) (fun _ _ _ h => h) (Or.inl ⟨by rfl, ?_⟩) hHeld ?_ ?_; rotate_left; (rintro w' ⟨s0, s1, s2, s3, s4, s5, s6, s7⟩; go_simp; with_reducible rfl); rotate_left; (simp only [Act.put, List.setIfInBounds_toArray, List.set_cons_zero, List.set_cons_succ, i64_w, i32_w]; rfl)
            refine take_ (i := 30) (N := some 43) (v := ?_) (a' := ?_) spec_NotesOk.d35 rfl rfl (take_ofW HT_.out HW_.out (by kernel_rfl)) (fun _ _ _ h => h) (Or.inl ⟨by rfl, ?_⟩) hHeld ?_ ?_; rotate_left; (rintro w' ⟨s0, s1, s2, s3, s4, s5, s6, s7⟩; go_simp; with_reducible rfl); rotate_left; (simp only [Act.put, List.setIfInBounds_toArray, List.set_cons_zero, List.set_cons_succ, i64_w, i32_w]; rfl)
            refine p1_ (i := 31) (N := some 44) spec_NotesOk.d36 (any_of HT_.out (by kernel_rfl)) ?_
            refine p1_ (i := 32) (N := some 45) spec_NotesOk.d37 (any_of HT_.out (by kernel_rfl)) ?_
            refine p1_ (i := 33) (N := some 46) spec_NotesOk.d38 (any_of HT_.out (by kernel_rfl)) ?_
            refine done_ (done_of HT_.out (by kernel_rfl)) ?_
            try go_wp2
            go_ret
            exact ⟨by first | rfl | (simp [errW_none, errW_some] <;> rfl) | (simp only [← hji10]; first | rfl | (simp [errW_none, errW_some] <;> rfl)) | (simp [*, errW_none, errW_some] <;> rfl), hb_⟩
           ·rw [if_neg c13] at H
            have c13b0 : decide (((rd_T109 l0 x3_1).f0) < ((rd_T109 l0 (ji10)).f0)) = false := decide_eq_false c13
            clear c13
            have H' := ak_ H
            clear H
            try go_wp2
            replace HB := ak_ (below_drew1 HB.out)
            have p468 : 0 ≤ (x3_1 : Int) := of_decide_eq_true (by first | (with_reducible assumption) | assumption)
            have q468 : x3_1 < (l0.length : Int) := of_decide_eq_true (by first | (with_reducible assumption) | assumption)
            obtain ⟨ad468, e468, hx468_0, hx468_1⟩ := at_T109 HR0.out x3_1 p468 q468
            have hw468_1 := hx468_1
            have hw468_0 := hx468_0
            cases e468
            replace hx468_0 := cx_ HB hx468_0
            replace hx468_1 := cx_ HB hx468_1
            replace p468 := eq_true p468
            replace q468 := eq_true q468
            have p470 : 0 ≤ (x3_1 : Int) := of_decide_eq_true (by first | (with_reducible assumption) | assumption)
            have q470 : x3_1 < (l0.length : Int) := of_decide_eq_true (by first | (with_reducible assumption) | assumption)
            obtain ⟨ad470, e470, hx470_0, hx470_1⟩ := at_T109 HR0.out x3_1 p470 q470
            have hw470_1 := hx470_1
            have hw470_0 := hx470_0
            obtain rfl : ad468 = ad470 := (by injection e470)
            replace hx470_0 := cx_ HB hx470_0
            replace hx470_1 := cx_ HB hx470_1
            replace p470 := eq_true p470
            replace q470 := eq_true q470
            have p472 : 0 ≤ ((ji10) : Int) := of_decide_eq_true (by first | (with_reducible assumption) | assumption)
            have q472 : (ji10) < (l0.length : Int) := of_decide_eq_true (by first | (with_reducible assumption) | assumption)
            obtain ⟨ad472, e472, hx472_0, hx472_1⟩ := at_T109 HR0.out (ji10) p472 q472
            have hw472_1 := hx472_1
            have hw472_0 := hx472_0
            obtain rfl : ad468 = ad472 := (by injection e472)
            replace hx472_0 := cx_ HB hx472_0
            replace hx472_1 := cx_ HB hx472_1
            replace p472 := eq_true p472
            replace q472 := eq_true q472
            have p473 : 0 ≤ (x3_1 : Int) := of_decide_eq_true (by first | (with_reducible assumption) | assumption)
            have q473 : x3_1 < (l0.length : Int) := of_decide_eq_true (by first | (with_reducible assumption) | assumption)
            obtain ⟨ad473, e473, hx473_0, hx473_1⟩ := at_T109 HR0.out x3_1 p473 q473
            have hw473_1 := hx473_1
            have hw473_0 := hx473_0
            obtain rfl : ad468 = ad473 := (by injection e473)
            replace hx473_0 := cx_ HB hx473_0
            replace hx473_1 := cx_ HB hx473_1
            replace p473 := eq_true p473
            replace q473 := eq_true q473
            refine start_ (n := 34) (S := fun w' => w'.cell? (ad468.add ((x3_1).toNat * 2)) = some (.int .i64 ((rd_T109 l0 x3_1).f0)) ∧ w'.cell? ⟨(ad468.add ((x3_1).toNat * 2)).block, (ad468.add ((x3_1).toNat * 2)).off + 1, none⟩ = some (.int .i64 ((rd_T109 l0 x3_1).f1)) ∧ w'.cell? (ad468.add ((x3_1).toNat * 2)) = some (.int .i64 ((rd_T109 l0 x3_1).f0)) ∧ w'.cell? ⟨(ad468.add ((x3_1).toNat * 2)).block, (ad468.add ((x3_1).toNat * 2)).off + 1, none⟩ = some (.int .i64 ((rd_T109 l0 x3_1).f1)) ∧ w'.cell? (ad468.add (((ji10)).toNat * 2)) = some (.int .i64 ((rd_T109 l0 (ji10)).f0)) ∧ w'.cell? ⟨(ad468.add (((ji10)).toNat * 2)).block, (ad468.add (((ji10)).toNat * 2)).off + 1, none⟩ = some (.int .i64 ((rd_T109 l0 (ji10)).f1)) ∧ w'.cell? (ad468.add ((x3_1).toNat * 2)) = some (.int .i64 ((rd_T109 l0 x3_1).f0)) ∧ w'.cell? ⟨(ad468.add ((x3_1).toNat * 2)).block, (ad468.add ((x3_1).toNat * 2)).off + 1, none⟩ = some (.int .i64 ((rd_T109 l0 x3_1).f1))) (ds := []) spec_NotesOk.d0 (by kernel_rfl) rfl rfl ⟨((HB.out.cell (World.block_lt_of_cell? w _ hw468_0)).trans hw468_0), ((HB.out.cell (World.block_lt_of_cell? w _ hw468_1)).trans hw468_1), ((HB.out.cell (World.block_lt_of_cell? w _ hw470_0)).trans hw470_0), ((HB.out.cell (World.block_lt_of_cell? w _ hw470_1)).trans hw470_1), ((HB.out.cell (World.block_lt_of_cell? w _ hw472_0)).trans hw472_0), ((HB.out.cell (World.block_lt_of_cell? w _ hw472_1)).trans hw472_1), ((HB.out.cell (World.block_lt_of_cell? w _ hw473_0)).trans hw473_0), ((HB.out.cell (World.block_lt_of_cell? w _ hw473_1)).trans hw473_1)⟩ (fun hHeld => ?_); refine with_tabW spec_NotesOk.tab6 spec_NotesOk.bits6 (fun HT_ HW_ => ?_)
            generalize wr.drew = w15 at HB hx468_0 hx468_1 hx470_0 hx470_1 hx472_0 hx472_1 hx473_0 hx473_1 hHeld ⊢
            refine p1_ (i := 0) (N := some 13) spec_NotesOk.d1 (any_of HT_.out (by kernel_rfl)) ?_
            refine p1_ (i := 1) (N := some 14) spec_NotesOk.d2 (any_of HT_.out (by kernel_rfl)) ?_
            refine p1_ (i := 2) (N := some 15) spec_NotesOk.d3 (any_of HT_.out (by kernel_rfl)) ?_
            refine p1_ (i := 3) (N := some 16) spec_NotesOk.d4 (any_of HT_.out (by kernel_rfl)) ?_
            refine take_ (i := 4) (N := some 17) (v := ?_) (a' := ?_) spec_NotesOk.d5 rfl rfl (take_ofW HT_.out HW_.out (by kernel_rfl)) (fun _ _ _ h => h) (Or.inl ⟨by rfl, ?_⟩) hHeld ?_ ?_; rotate_left; (rintro w' ⟨s0, s1, s2, s3, s4, s5, s6, s7⟩; go_simp; with_reducible rfl); rotate_left; (simp only [Act.put, List.setIfInBounds_toArray, List.set_cons_zero, List.set_cons_succ, i64_w, i32_w]; rfl)
            refine one_ (i := 5) (N := some 18) spec_NotesOk.d6 rfl rfl (one_of HT_.out (by kernel_rfl)) (by decide) (fun K hK => ?_)
            refine goes_ Try.func79 (by kernel_rfl) rfl #[.int .i64 ((rd_T109 l0 x3_1).f0)] (by rfl) rfl rfl (ma1_ rfl) ?_
            with_reducible refine (spec_l02Tick.calls ((rd_T109 l0 x3_1).f0) true _ A5.out).mono ?_
            rintro e w' ⟨rfl, ⟨nd, rfl⟩⟩
            refine ⟨_, rfl, ?_⟩
            refine hK.out _ _ ⟨((HB.out.cell (World.block_lt_of_cell? w _ hw468_0)).trans hw468_0), ((HB.out.cell (World.block_lt_of_cell? w _ hw468_1)).trans hw468_1), ((HB.out.cell (World.block_lt_of_cell? w _ hw470_0)).trans hw470_0), ((HB.out.cell (World.block_lt_of_cell? w _ hw470_1)).trans hw470_1), ((HB.out.cell (World.block_lt_of_cell? w _ hw472_0)).trans hw472_0), ((HB.out.cell (World.block_lt_of_cell? w _ hw472_1)).trans hw472_1), ((HB.out.cell (World.block_lt_of_cell? w _ hw473_0)).trans hw473_0), ((HB.out.cell (World.block_lt_of_cell? w _ hw473_1)).trans hw473_1)⟩ (fun hHeld => ?_)
            clear hK K
            refine norm_ (a' := ?_) ?_ ?_
            rotate_left
            ·show Act.put _ (some 18) _ = _
             simp only [Act.put, List.setIfInBounds_toArray, List.set_cons_zero, List.set_cons_succ, i64_w, i32_w]
             rfl
            refine p1_ (i := 6) (N := some 19) spec_NotesOk.d7 (any_of HT_.out (by kernel_rfl)) ?_
            refine p1_ (i := 7) (N := some 20) spec_NotesOk.d8 (any_of HT_.out (by kernel_rfl)) ?_
            refine p1_ (i := 8) (N := some 21) spec_NotesOk.d9 (any_of HT_.out (by kernel_rfl)) ?_
            refine p1_ (i := 9) (N := some 22) spec_NotesOk.d10 (any_of HT_.out (by kernel_rfl)) ?_
            refine p1_ (i := 10) (N := some 23) spec_NotesOk.d11 (any_of HT_.out (by kernel_rfl)) ?_
            refine p1_ (i := 11) (N := some 24) spec_NotesOk.d12 (any_of HT_.out (by kernel_rfl)) ?_
            refine take_ (i := 12) (N := some 25) (v := ?_) (a' := ?_) spec_NotesOk.d13 rfl rfl (take_ofW HT_.out HW_.out (by kernel_rfl)) (fun _ _ _ h => h) (Or.inl ⟨by rfl, ?_⟩) hHeld ?_ ?_; rotate_left; (rintro w' ⟨s0, s1, s2, s3, s4, s5, s6, s7⟩; go_simp; with_reducible rfl); rotate_left; (simp only [Act.put, List.setIfInBounds_toArray, List.set_cons_zero, List.set_cons_succ, i64_w, i32_w]; rfl)
            refine one_ (i := 13) (N := some 26) spec_NotesOk.d14 rfl rfl (one_of HT_.out (by kernel_rfl)) (by decide) (fun K hK => ?_)
            refine goes_ Try.func89 (by kernel_rfl) rfl #[.int .i64 ((rd_T109 l0 x3_1).f1)] (by rfl) rfl rfl (ma1_ rfl) ?_
            with_reducible refine (spec_l05Count.calls ((rd_T109 l0 x3_1).f1) true _ A7.out).mono ?_
            rintro e w' ⟨rfl, ⟨nd, rfl⟩⟩
            refine ⟨_, rfl, ?_⟩
            refine hK.out _ _ ⟨((HB.out.cell (World.block_lt_of_cell? w _ hw468_0)).trans hw468_0), ((HB.out.cell (World.block_lt_of_cell? w _ hw468_1)).trans hw468_1), ((HB.out.cell (World.block_lt_of_cell? w _ hw470_0)).trans hw470_0), ((HB.out.cell (World.block_lt_of_cell? w _ hw470_1)).trans hw470_1), ((HB.out.cell (World.block_lt_of_cell? w _ hw472_0)).trans hw472_0), ((HB.out.cell (World.block_lt_of_cell? w _ hw472_1)).trans hw472_1), ((HB.out.cell (World.block_lt_of_cell? w _ hw473_0)).trans hw473_0), ((HB.out.cell (World.block_lt_of_cell? w _ hw473_1)).trans hw473_1)⟩ (fun hHeld => ?_)
            clear hK K
            refine norm_ (a' := ?_) ?_ ?_
            rotate_left
            ·show Act.put _ (some 26) _ = _
             simp only [Act.put, List.setIfInBounds_toArray, List.set_cons_zero, List.set_cons_succ, i64_w, i32_w]
             rfl
            refine p1_ (i := 14) (N := some 27) spec_NotesOk.d15 (any_of HT_.out (by kernel_rfl)) ?_
            refine p1_ (i := 15) (N := some 28) spec_NotesOk.d16 (any_of HT_.out (by kernel_rfl)) ?_
            refine p1_ (i := 16) (N := some 29) spec_NotesOk.d17 (any_of HT_.out (by kernel_rfl)) ?_
            refine p1_ (i := 17) (N := some 30) spec_NotesOk.d18 (any_of HT_.out (by kernel_rfl)) ?_
            refine p1_ (i := 18) (N := some 31) spec_NotesOk.d19 (any_of HT_.out (by kernel_rfl)) ?_
            refine p1_ (i := 19) (N := some 32) spec_NotesOk.d20 (any_of HT_.out (by kernel_rfl)) ?_
            refine p1_ (i := 20) (N := some 33) spec_NotesOk.d21 (any_of HT_.out (by kernel_rfl)) ?_
            refine p1_ (i := 21) (N := some 34) spec_NotesOk.d22 (any_of HT_.out (by kernel_rfl)) ?_
            refine p1_ (i := 22) (N := some 35) spec_NotesOk.d23 (any_of HT_.out (by kernel_rfl)) ?_
            refine p1_ (i := 23) (N := some 36) spec_NotesOk.d24 (any_of HT_.out (by kernel_rfl)) ?_
            refine p1_ (i := 24) (N := some 37) spec_NotesOk.d25 (any_of HT_.out (by kernel_rfl)) ?_
            refine p1_ (i := 26) (N := some 39) spec_NotesOk.d26 (any_of HT_.out (by kernel_rfl)) ?_
            refine p1_ (i := 27) (N := some 40) spec_NotesOk.d27 (any_of HT_.out (by kernel_rfl)) ?_
            refine p1_ (i := 28) (N := some 41) spec_NotesOk.d28 (any_of HT_.out (by kernel_rfl)) ?_
            refine p1_ (i := 29) (N := some 42) spec_NotesOk.d29 (any_of HT_.out (by kernel_rfl)) ?_
            refine take_ (i := 25) (N := some 38) (v := ?_) (a' := ?_) spec_NotesOk.d34 rfl rfl (take_ofW HT_.out HW_.out (by kernel_rfl)) (fun _ _ _ h => h) (Or.inl ⟨by rfl, ?_⟩) hHeld ?_ ?_; rotate_left; (rintro w' ⟨s0, s1, s2, s3, s4, s5, s6, s7⟩; go_simp; with_reducible rfl); rotate_left; (simp only [Act.put, List.setIfInBounds_toArray, List.set_cons_zero, List.set_cons_succ, i64_w, i32_w]; rfl)
            refine take_ (i := 30) (N := some 43) (v := ?_) (a' := ?_) spec_NotesOk.d35 rfl rfl (take_ofW HT_.out HW_.out (by kernel_rfl)) (fun _ _ _ h => h) (Or.inl ⟨by rfl, ?_⟩) hHeld ?_ ?_; rotate_left; (rintro w' ⟨s0, s1, s2, s3, s4, s5, s6, s7⟩; go_simp; with_reducible rfl); rotate_left; (simp only [Act.put, List.setIfInBounds_toArray, List.set_cons_zero, List.set_cons_succ, i64_w, i32_w]; rfl)
            refine p1_ (i := 31) (N := some 44) spec_NotesOk.d36 (any_of HT_.out (by kernel_rfl)) ?_
            refine p1_ (i := 32) (N := some 45) spec_NotesOk.d37 (any_of HT_.out (by kernel_rfl)) ?_
            refine p1_ (i := 33) (N := some 46) spec_NotesOk.d38 (any_of HT_.out (by kernel_rfl)) ?_
            refine done_ (done_of HT_.out (by kernel_rfl)) ?_
            try go_wp2
            go_roundg k1
            case measure => have := HK1.out; omega
            case rel => exact ⟨(wrap64 (x3_1 + 1)), (by first | rfl | (simp; done) | (simp [*]; done)), H', ⟨by have := HK1.out; omega⟩, ⟨hb_⟩⟩
          ·rw [if_neg c12] at H
           exact absurd H (by simp)
         ·rw [if_neg c11] at H
          exact absurd H (by simp)
        ·rw [if_neg c9] at H
         have c9b0 : decide (0 < x3_1) = false := decide_eq_false c9
         clear c9
         have H' := ak_ H
         clear H
         try go_wp2
         replace HB := ak_ (below_drew1 HB.out)
         have p468 : 0 ≤ (x3_1 : Int) := of_decide_eq_true (by first | (with_reducible assumption) | assumption)
         have q468 : x3_1 < (l0.length : Int) := of_decide_eq_true (by first | (with_reducible assumption) | assumption)
         obtain ⟨ad468, e468, hx468_0, hx468_1⟩ := at_T109 HR0.out x3_1 p468 q468
         have hw468_1 := hx468_1
         have hw468_0 := hx468_0
         cases e468
         replace hx468_0 := cx_ HB hx468_0
         replace hx468_1 := cx_ HB hx468_1
         replace p468 := eq_true p468
         replace q468 := eq_true q468
         have p470 : 0 ≤ (x3_1 : Int) := of_decide_eq_true (by first | (with_reducible assumption) | assumption)
         have q470 : x3_1 < (l0.length : Int) := of_decide_eq_true (by first | (with_reducible assumption) | assumption)
         obtain ⟨ad470, e470, hx470_0, hx470_1⟩ := at_T109 HR0.out x3_1 p470 q470
         have hw470_1 := hx470_1
         have hw470_0 := hx470_0
         obtain rfl : ad468 = ad470 := (by injection e470)
         replace hx470_0 := cx_ HB hx470_0
         replace hx470_1 := cx_ HB hx470_1
         replace p470 := eq_true p470
         replace q470 := eq_true q470
         refine start_ (n := 34) (S := fun w' => w'.cell? (ad468.add ((x3_1).toNat * 2)) = some (.int .i64 ((rd_T109 l0 x3_1).f0)) ∧ w'.cell? ⟨(ad468.add ((x3_1).toNat * 2)).block, (ad468.add ((x3_1).toNat * 2)).off + 1, none⟩ = some (.int .i64 ((rd_T109 l0 x3_1).f1)) ∧ w'.cell? (ad468.add ((x3_1).toNat * 2)) = some (.int .i64 ((rd_T109 l0 x3_1).f0)) ∧ w'.cell? ⟨(ad468.add ((x3_1).toNat * 2)).block, (ad468.add ((x3_1).toNat * 2)).off + 1, none⟩ = some (.int .i64 ((rd_T109 l0 x3_1).f1))) (ds := []) spec_NotesOk.d0 (by kernel_rfl) rfl rfl ⟨((HB.out.cell (World.block_lt_of_cell? w _ hw468_0)).trans hw468_0), ((HB.out.cell (World.block_lt_of_cell? w _ hw468_1)).trans hw468_1), ((HB.out.cell (World.block_lt_of_cell? w _ hw470_0)).trans hw470_0), ((HB.out.cell (World.block_lt_of_cell? w _ hw470_1)).trans hw470_1)⟩ (fun hHeld => ?_); refine with_tabW spec_NotesOk.tab6 spec_NotesOk.bits6 (fun HT_ HW_ => ?_)
         generalize wr.drew = w16 at HB hx468_0 hx468_1 hx470_0 hx470_1 hHeld ⊢
         refine p1_ (i := 0) (N := some 13) spec_NotesOk.d1 (any_of HT_.out (by kernel_rfl)) ?_
         refine p1_ (i := 1) (N := some 14) spec_NotesOk.d2 (any_of HT_.out (by kernel_rfl)) ?_
         refine p1_ (i := 2) (N := some 15) spec_NotesOk.d3 (any_of HT_.out (by kernel_rfl)) ?_
         refine p1_ (i := 3) (N := some 16) spec_NotesOk.d4 (any_of HT_.out (by kernel_rfl)) ?_
         refine take_ (i := 4) (N := some 17) (v := ?_) (a' := ?_) spec_NotesOk.d5 rfl rfl (take_ofW HT_.out HW_.out (by kernel_rfl)) (fun _ _ _ h => h) (Or.inl ⟨by rfl, ?_⟩) hHeld ?_ ?_; rotate_left; (rintro w' ⟨s0, s1, s2, s3⟩; go_simp; with_reducible rfl); rotate_left; (simp only [Act.put, List.setIfInBounds_toArray, List.set_cons_zero, List.set_cons_succ, i64_w, i32_w]; rfl)
         refine one_ (i := 5) (N := some 18) spec_NotesOk.d6 rfl rfl (one_of HT_.out (by kernel_rfl)) (by decide) (fun K hK => ?_)
         refine goes_ Try.func79 (by kernel_rfl) rfl #[.int .i64 ((rd_T109 l0 x3_1).f0)] (by rfl) rfl rfl (ma1_ rfl) ?_
         with_reducible refine (spec_l02Tick.calls ((rd_T109 l0 x3_1).f0) true _ A5.out).mono ?_
         rintro e w' ⟨rfl, ⟨nd, rfl⟩⟩
         refine ⟨_, rfl, ?_⟩
         refine hK.out _ _ ⟨((HB.out.cell (World.block_lt_of_cell? w _ hw468_0)).trans hw468_0), ((HB.out.cell (World.block_lt_of_cell? w _ hw468_1)).trans hw468_1), ((HB.out.cell (World.block_lt_of_cell? w _ hw470_0)).trans hw470_0), ((HB.out.cell (World.block_lt_of_cell? w _ hw470_1)).trans hw470_1)⟩ (fun hHeld => ?_)
         clear hK K
         refine norm_ (a' := ?_) ?_ ?_
         rotate_left
         ·show Act.put _ (some 18) _ = _
          simp only [Act.put, List.setIfInBounds_toArray, List.set_cons_zero, List.set_cons_succ, i64_w, i32_w]
          rfl
         refine p1_ (i := 6) (N := some 19) spec_NotesOk.d7 (any_of HT_.out (by kernel_rfl)) ?_
         refine p1_ (i := 7) (N := some 20) spec_NotesOk.d8 (any_of HT_.out (by kernel_rfl)) ?_
         refine p1_ (i := 8) (N := some 21) spec_NotesOk.d9 (any_of HT_.out (by kernel_rfl)) ?_
         refine p1_ (i := 9) (N := some 22) spec_NotesOk.d10 (any_of HT_.out (by kernel_rfl)) ?_
         refine p1_ (i := 10) (N := some 23) spec_NotesOk.d11 (any_of HT_.out (by kernel_rfl)) ?_
         refine p1_ (i := 11) (N := some 24) spec_NotesOk.d12 (any_of HT_.out (by kernel_rfl)) ?_
         refine take_ (i := 12) (N := some 25) (v := ?_) (a' := ?_) spec_NotesOk.d13 rfl rfl (take_ofW HT_.out HW_.out (by kernel_rfl)) (fun _ _ _ h => h) (Or.inl ⟨by rfl, ?_⟩) hHeld ?_ ?_; rotate_left; (rintro w' ⟨s0, s1, s2, s3⟩; go_simp; with_reducible rfl); rotate_left; (simp only [Act.put, List.setIfInBounds_toArray, List.set_cons_zero, List.set_cons_succ, i64_w, i32_w]; rfl)
         refine one_ (i := 13) (N := some 26) spec_NotesOk.d14 rfl rfl (one_of HT_.out (by kernel_rfl)) (by decide) (fun K hK => ?_)
         refine goes_ Try.func89 (by kernel_rfl) rfl #[.int .i64 ((rd_T109 l0 x3_1).f1)] (by rfl) rfl rfl (ma1_ rfl) ?_
         with_reducible refine (spec_l05Count.calls ((rd_T109 l0 x3_1).f1) true _ A7.out).mono ?_
         rintro e w' ⟨rfl, ⟨nd, rfl⟩⟩
         refine ⟨_, rfl, ?_⟩
         refine hK.out _ _ ⟨((HB.out.cell (World.block_lt_of_cell? w _ hw468_0)).trans hw468_0), ((HB.out.cell (World.block_lt_of_cell? w _ hw468_1)).trans hw468_1), ((HB.out.cell (World.block_lt_of_cell? w _ hw470_0)).trans hw470_0), ((HB.out.cell (World.block_lt_of_cell? w _ hw470_1)).trans hw470_1)⟩ (fun hHeld => ?_)
         clear hK K
         refine norm_ (a' := ?_) ?_ ?_
         rotate_left
         ·show Act.put _ (some 26) _ = _
          simp only [Act.put, List.setIfInBounds_toArray, List.set_cons_zero, List.set_cons_succ, i64_w, i32_w]
          rfl
         refine p1_ (i := 14) (N := some 27) spec_NotesOk.d15 (any_of HT_.out (by kernel_rfl)) ?_
         refine p1_ (i := 15) (N := some 28) spec_NotesOk.d16 (any_of HT_.out (by kernel_rfl)) ?_
         refine p1_ (i := 16) (N := some 29) spec_NotesOk.d17 (any_of HT_.out (by kernel_rfl)) ?_
         refine p1_ (i := 17) (N := some 30) spec_NotesOk.d18 (any_of HT_.out (by kernel_rfl)) ?_
         refine p1_ (i := 18) (N := some 31) spec_NotesOk.d19 (any_of HT_.out (by kernel_rfl)) ?_
         refine p1_ (i := 19) (N := some 32) spec_NotesOk.d20 (any_of HT_.out (by kernel_rfl)) ?_
         refine p0_ (i := 20) (N := some 33) spec_NotesOk.d21 (any_of HT_.out (by kernel_rfl)) ?_
         refine p0_ (i := 21) (N := some 34) spec_NotesOk.d22 (any_of HT_.out (by kernel_rfl)) ?_
         refine p0_ (i := 22) (N := some 35) spec_NotesOk.d23 (any_of HT_.out (by kernel_rfl)) ?_
         refine p0_ (i := 23) (N := some 36) spec_NotesOk.d24 (any_of HT_.out (by kernel_rfl)) ?_
         refine p0_ (i := 24) (N := some 37) spec_NotesOk.d25 (any_of HT_.out (by kernel_rfl)) ?_
         refine p0_ (i := 25) (N := some 38) spec_NotesOk.d30 (any_of HT_.out (by kernel_rfl)) ?_
         refine p0_ (i := 26) (N := some 39) spec_NotesOk.d31 (any_of HT_.out (by kernel_rfl)) ?_
         refine p0_ (i := 27) (N := some 40) spec_NotesOk.d32 (any_of HT_.out (by kernel_rfl)) ?_
         refine p0_ (i := 28) (N := some 41) spec_NotesOk.d33 (any_of HT_.out (by kernel_rfl)) ?_
         refine p0_ (i := 29) (N := some 42) spec_NotesOk.d34 (any_of HT_.out (by kernel_rfl)) ?_
         refine p0_ (i := 30) (N := some 43) spec_NotesOk.d35 (any_of HT_.out (by kernel_rfl)) ?_
         refine p0_ (i := 31) (N := some 44) spec_NotesOk.d36 (any_of HT_.out (by kernel_rfl)) ?_
         refine p1_ (i := 32) (N := some 45) spec_NotesOk.d37 (any_of HT_.out (by kernel_rfl)) ?_
         refine p1_ (i := 33) (N := some 46) spec_NotesOk.d38 (any_of HT_.out (by kernel_rfl)) ?_
         refine done_ (done_of HT_.out (by kernel_rfl)) ?_
         try go_wp2
         go_roundg k1
         case measure => have := HK1.out; omega
         case rel => exact ⟨(wrap64 (x3_1 + 1)), (by first | rfl | (simp; done) | (simp [*]; done)), H', ⟨by have := HK1.out; omega⟩, ⟨hb_⟩⟩
       ·replace c8 := Bool.eq_false_iff.mpr c8
        subst c8
        rw [if_neg (show ¬ (false = true) by decide)] at H
        obtain rfl := Option.some.inj H
        try go_wp2
        replace HB := ak_ (below_drew1 HB.out)
        have p468 : 0 ≤ (x3_1 : Int) := of_decide_eq_true (by first | (with_reducible assumption) | assumption)
        have q468 : x3_1 < (l0.length : Int) := of_decide_eq_true (by first | (with_reducible assumption) | assumption)
        obtain ⟨ad468, e468, hx468_0, hx468_1⟩ := at_T109 HR0.out x3_1 p468 q468
        have hw468_1 := hx468_1
        have hw468_0 := hx468_0
        cases e468
        replace hx468_0 := cx_ HB hx468_0
        replace hx468_1 := cx_ HB hx468_1
        replace p468 := eq_true p468
        replace q468 := eq_true q468
        have p470 : 0 ≤ (x3_1 : Int) := of_decide_eq_true (by first | (with_reducible assumption) | assumption)
        have q470 : x3_1 < (l0.length : Int) := of_decide_eq_true (by first | (with_reducible assumption) | assumption)
        obtain ⟨ad470, e470, hx470_0, hx470_1⟩ := at_T109 HR0.out x3_1 p470 q470
        have hw470_1 := hx470_1
        have hw470_0 := hx470_0
        obtain rfl : ad468 = ad470 := (by injection e470)
        replace hx470_0 := cx_ HB hx470_0
        replace hx470_1 := cx_ HB hx470_1
        replace p470 := eq_true p470
        replace q470 := eq_true q470
        refine start_ (n := 34) (S := fun w' => w'.cell? (ad468.add ((x3_1).toNat * 2)) = some (.int .i64 ((rd_T109 l0 x3_1).f0)) ∧ w'.cell? ⟨(ad468.add ((x3_1).toNat * 2)).block, (ad468.add ((x3_1).toNat * 2)).off + 1, none⟩ = some (.int .i64 ((rd_T109 l0 x3_1).f1)) ∧ w'.cell? (ad468.add ((x3_1).toNat * 2)) = some (.int .i64 ((rd_T109 l0 x3_1).f0)) ∧ w'.cell? ⟨(ad468.add ((x3_1).toNat * 2)).block, (ad468.add ((x3_1).toNat * 2)).off + 1, none⟩ = some (.int .i64 ((rd_T109 l0 x3_1).f1))) (ds := []) spec_NotesOk.d0 (by kernel_rfl) rfl rfl ⟨((HB.out.cell (World.block_lt_of_cell? w _ hw468_0)).trans hw468_0), ((HB.out.cell (World.block_lt_of_cell? w _ hw468_1)).trans hw468_1), ((HB.out.cell (World.block_lt_of_cell? w _ hw470_0)).trans hw470_0), ((HB.out.cell (World.block_lt_of_cell? w _ hw470_1)).trans hw470_1)⟩ (fun hHeld => ?_); refine with_tabW spec_NotesOk.tab6 spec_NotesOk.bits6 (fun HT_ HW_ => ?_)
        generalize wr.drew = w17 at HB hx468_0 hx468_1 hx470_0 hx470_1 hHeld ⊢
        refine p1_ (i := 0) (N := some 13) spec_NotesOk.d1 (any_of HT_.out (by kernel_rfl)) ?_
        refine p1_ (i := 1) (N := some 14) spec_NotesOk.d2 (any_of HT_.out (by kernel_rfl)) ?_
        refine p1_ (i := 2) (N := some 15) spec_NotesOk.d3 (any_of HT_.out (by kernel_rfl)) ?_
        refine p1_ (i := 3) (N := some 16) spec_NotesOk.d4 (any_of HT_.out (by kernel_rfl)) ?_
        refine take_ (i := 4) (N := some 17) (v := ?_) (a' := ?_) spec_NotesOk.d5 rfl rfl (take_ofW HT_.out HW_.out (by kernel_rfl)) (fun _ _ _ h => h) (Or.inl ⟨by rfl, ?_⟩) hHeld ?_ ?_; rotate_left; (rintro w' ⟨s0, s1, s2, s3⟩; go_simp; with_reducible rfl); rotate_left; (simp only [Act.put, List.setIfInBounds_toArray, List.set_cons_zero, List.set_cons_succ, i64_w, i32_w]; rfl)
        refine one_ (i := 5) (N := some 18) spec_NotesOk.d6 rfl rfl (one_of HT_.out (by kernel_rfl)) (by decide) (fun K hK => ?_)
        refine goes_ Try.func79 (by kernel_rfl) rfl #[.int .i64 ((rd_T109 l0 x3_1).f0)] (by rfl) rfl rfl (ma1_ rfl) ?_
        with_reducible refine (spec_l02Tick.calls ((rd_T109 l0 x3_1).f0) true _ A5.out).mono ?_
        rintro e w' ⟨rfl, ⟨nd, rfl⟩⟩
        refine ⟨_, rfl, ?_⟩
        refine hK.out _ _ ⟨((HB.out.cell (World.block_lt_of_cell? w _ hw468_0)).trans hw468_0), ((HB.out.cell (World.block_lt_of_cell? w _ hw468_1)).trans hw468_1), ((HB.out.cell (World.block_lt_of_cell? w _ hw470_0)).trans hw470_0), ((HB.out.cell (World.block_lt_of_cell? w _ hw470_1)).trans hw470_1)⟩ (fun hHeld => ?_)
        clear hK K
        refine norm_ (a' := ?_) ?_ ?_
        rotate_left
        ·show Act.put _ (some 18) _ = _
         simp only [Act.put, List.setIfInBounds_toArray, List.set_cons_zero, List.set_cons_succ, i64_w, i32_w]
         rfl
        refine p1_ (i := 6) (N := some 19) spec_NotesOk.d7 (any_of HT_.out (by kernel_rfl)) ?_
        refine p1_ (i := 7) (N := some 20) spec_NotesOk.d8 (any_of HT_.out (by kernel_rfl)) ?_
        refine p1_ (i := 8) (N := some 21) spec_NotesOk.d9 (any_of HT_.out (by kernel_rfl)) ?_
        refine p1_ (i := 9) (N := some 22) spec_NotesOk.d10 (any_of HT_.out (by kernel_rfl)) ?_
        refine p1_ (i := 10) (N := some 23) spec_NotesOk.d11 (any_of HT_.out (by kernel_rfl)) ?_
        refine p1_ (i := 11) (N := some 24) spec_NotesOk.d12 (any_of HT_.out (by kernel_rfl)) ?_
        refine take_ (i := 12) (N := some 25) (v := ?_) (a' := ?_) spec_NotesOk.d13 rfl rfl (take_ofW HT_.out HW_.out (by kernel_rfl)) (fun _ _ _ h => h) (Or.inl ⟨by rfl, ?_⟩) hHeld ?_ ?_; rotate_left; (rintro w' ⟨s0, s1, s2, s3⟩; go_simp; with_reducible rfl); rotate_left; (simp only [Act.put, List.setIfInBounds_toArray, List.set_cons_zero, List.set_cons_succ, i64_w, i32_w]; rfl)
        refine one_ (i := 13) (N := some 26) spec_NotesOk.d14 rfl rfl (one_of HT_.out (by kernel_rfl)) (by decide) (fun K hK => ?_)
        refine goes_ Try.func89 (by kernel_rfl) rfl #[.int .i64 ((rd_T109 l0 x3_1).f1)] (by rfl) rfl rfl (ma1_ rfl) ?_
        with_reducible refine (spec_l05Count.calls ((rd_T109 l0 x3_1).f1) false _ A7.out).mono ?_
        rintro e w' ⟨rfl, ⟨nd, rfl⟩⟩
        refine ⟨_, rfl, ?_⟩
        refine hK.out _ _ ⟨((HB.out.cell (World.block_lt_of_cell? w _ hw468_0)).trans hw468_0), ((HB.out.cell (World.block_lt_of_cell? w _ hw468_1)).trans hw468_1), ((HB.out.cell (World.block_lt_of_cell? w _ hw470_0)).trans hw470_0), ((HB.out.cell (World.block_lt_of_cell? w _ hw470_1)).trans hw470_1)⟩ (fun hHeld => ?_)
        clear hK K
        refine norm_ (a' := ?_) ?_ ?_
        rotate_left
        ·show Act.put _ (some 26) _ = _
         simp only [Act.put, List.setIfInBounds_toArray, List.set_cons_zero, List.set_cons_succ, i64_w, i32_w]
         rfl
        refine p1_ (i := 14) (N := some 27) spec_NotesOk.d15 (any_of HT_.out (by kernel_rfl)) ?_
        refine p1_ (i := 15) (N := some 28) spec_NotesOk.d16 (any_of HT_.out (by kernel_rfl)) ?_
        refine p1_ (i := 16) (N := some 29) spec_NotesOk.d17 (any_of HT_.out (by kernel_rfl)) ?_
        refine p0_ (i := 17) (N := some 30) spec_NotesOk.d18 (any_of HT_.out (by kernel_rfl)) ?_
        refine p0_ (i := 18) (N := some 31) spec_NotesOk.d19 (any_of HT_.out (by kernel_rfl)) ?_
        refine p0_ (i := 19) (N := some 32) spec_NotesOk.d20 (any_of HT_.out (by kernel_rfl)) ?_
        refine p0_ (i := 20) (N := some 33) spec_NotesOk.d21 (any_of HT_.out (by kernel_rfl)) ?_
        refine p0_ (i := 21) (N := some 34) spec_NotesOk.d22 (any_of HT_.out (by kernel_rfl)) ?_
        refine p0_ (i := 22) (N := some 35) spec_NotesOk.d23 (any_of HT_.out (by kernel_rfl)) ?_
        refine p0_ (i := 23) (N := some 36) spec_NotesOk.d24 (any_of HT_.out (by kernel_rfl)) ?_
        refine p0_ (i := 24) (N := some 37) spec_NotesOk.d25 (any_of HT_.out (by kernel_rfl)) ?_
        refine p0_ (i := 25) (N := some 38) spec_NotesOk.d30 (any_of HT_.out (by kernel_rfl)) ?_
        refine p0_ (i := 26) (N := some 39) spec_NotesOk.d31 (any_of HT_.out (by kernel_rfl)) ?_
        refine p0_ (i := 27) (N := some 40) spec_NotesOk.d32 (any_of HT_.out (by kernel_rfl)) ?_
        refine p0_ (i := 28) (N := some 41) spec_NotesOk.d33 (any_of HT_.out (by kernel_rfl)) ?_
        refine p0_ (i := 29) (N := some 42) spec_NotesOk.d34 (any_of HT_.out (by kernel_rfl)) ?_
        refine p0_ (i := 30) (N := some 43) spec_NotesOk.d35 (any_of HT_.out (by kernel_rfl)) ?_
        refine p0_ (i := 31) (N := some 44) spec_NotesOk.d36 (any_of HT_.out (by kernel_rfl)) ?_
        refine p0_ (i := 32) (N := some 45) spec_NotesOk.d37 (any_of HT_.out (by kernel_rfl)) ?_
        refine p1_ (i := 33) (N := some 46) spec_NotesOk.d38 (any_of HT_.out (by kernel_rfl)) ?_
        refine done_ (done_of HT_.out (by kernel_rfl)) ?_
        try go_wp2
        go_ret
        exact ⟨ew_, hb_⟩
      ·replace c6 := Bool.eq_false_iff.mpr c6
       subst c6
       rw [if_neg (show ¬ (false = true) by decide)] at H
       obtain rfl := Option.some.inj H
       try go_wp2
       replace HB := ak_ (below_drew1 HB.out)
       have p468 : 0 ≤ (x3_1 : Int) := of_decide_eq_true (by first | (with_reducible assumption) | assumption)
       have q468 : x3_1 < (l0.length : Int) := of_decide_eq_true (by first | (with_reducible assumption) | assumption)
       obtain ⟨ad468, e468, hx468_0, hx468_1⟩ := at_T109 HR0.out x3_1 p468 q468
       have hw468_1 := hx468_1
       have hw468_0 := hx468_0
       cases e468
       replace hx468_0 := cx_ HB hx468_0
       replace hx468_1 := cx_ HB hx468_1
       replace p468 := eq_true p468
       replace q468 := eq_true q468
       refine start_ (n := 34) (S := fun w' => w'.cell? (ad468.add ((x3_1).toNat * 2)) = some (.int .i64 ((rd_T109 l0 x3_1).f0)) ∧ w'.cell? ⟨(ad468.add ((x3_1).toNat * 2)).block, (ad468.add ((x3_1).toNat * 2)).off + 1, none⟩ = some (.int .i64 ((rd_T109 l0 x3_1).f1))) (ds := []) spec_NotesOk.d0 (by kernel_rfl) rfl rfl ⟨((HB.out.cell (World.block_lt_of_cell? w _ hw468_0)).trans hw468_0), ((HB.out.cell (World.block_lt_of_cell? w _ hw468_1)).trans hw468_1)⟩ (fun hHeld => ?_); refine with_tabW spec_NotesOk.tab6 spec_NotesOk.bits6 (fun HT_ HW_ => ?_)
       generalize wr.drew = w18 at HB hx468_0 hx468_1 hHeld ⊢
       refine p1_ (i := 0) (N := some 13) spec_NotesOk.d1 (any_of HT_.out (by kernel_rfl)) ?_
       refine p1_ (i := 1) (N := some 14) spec_NotesOk.d2 (any_of HT_.out (by kernel_rfl)) ?_
       refine p1_ (i := 2) (N := some 15) spec_NotesOk.d3 (any_of HT_.out (by kernel_rfl)) ?_
       refine p1_ (i := 3) (N := some 16) spec_NotesOk.d4 (any_of HT_.out (by kernel_rfl)) ?_
       refine take_ (i := 4) (N := some 17) (v := ?_) (a' := ?_) spec_NotesOk.d5 rfl rfl (take_ofW HT_.out HW_.out (by kernel_rfl)) (fun _ _ _ h => h) (Or.inl ⟨by rfl, ?_⟩) hHeld ?_ ?_; rotate_left; (rintro w' ⟨s0, s1⟩; go_simp; with_reducible rfl); rotate_left; (simp only [Act.put, List.setIfInBounds_toArray, List.set_cons_zero, List.set_cons_succ, i64_w, i32_w]; rfl)
       refine one_ (i := 5) (N := some 18) spec_NotesOk.d6 rfl rfl (one_of HT_.out (by kernel_rfl)) (by decide) (fun K hK => ?_)
       refine goes_ Try.func79 (by kernel_rfl) rfl #[.int .i64 ((rd_T109 l0 x3_1).f0)] (by rfl) rfl rfl (ma1_ rfl) ?_
       with_reducible refine (spec_l02Tick.calls ((rd_T109 l0 x3_1).f0) false _ A5.out).mono ?_
       rintro e w' ⟨rfl, ⟨nd, rfl⟩⟩
       refine ⟨_, rfl, ?_⟩
       refine hK.out _ _ ⟨((HB.out.cell (World.block_lt_of_cell? w _ hw468_0)).trans hw468_0), ((HB.out.cell (World.block_lt_of_cell? w _ hw468_1)).trans hw468_1)⟩ (fun hHeld => ?_)
       clear hK K
       refine norm_ (a' := ?_) ?_ ?_
       rotate_left
       ·show Act.put _ (some 18) _ = _
        simp only [Act.put, List.setIfInBounds_toArray, List.set_cons_zero, List.set_cons_succ, i64_w, i32_w]
        rfl
       refine p1_ (i := 6) (N := some 19) spec_NotesOk.d7 (any_of HT_.out (by kernel_rfl)) ?_
       refine p1_ (i := 7) (N := some 20) spec_NotesOk.d8 (any_of HT_.out (by kernel_rfl)) ?_
       refine p0_ (i := 8) (N := some 21) spec_NotesOk.d9 (any_of HT_.out (by kernel_rfl)) ?_
       refine p0_ (i := 9) (N := some 22) spec_NotesOk.d10 (any_of HT_.out (by kernel_rfl)) ?_
       refine p0_ (i := 10) (N := some 23) spec_NotesOk.d11 (any_of HT_.out (by kernel_rfl)) ?_
       refine p0_ (i := 11) (N := some 24) spec_NotesOk.d12 (any_of HT_.out (by kernel_rfl)) ?_
       refine p0_ (i := 12) (N := some 25) spec_NotesOk.d13 (any_of HT_.out (by kernel_rfl)) ?_
       refine p0_ (i := 13) (N := some 26) spec_NotesOk.d14 (any_of HT_.out (by kernel_rfl)) ?_
       refine p0_ (i := 14) (N := some 27) spec_NotesOk.d15 (any_of HT_.out (by kernel_rfl)) ?_
       refine p1_ (i := 15) (N := some 28) spec_NotesOk.d16 (any_of HT_.out (by kernel_rfl)) ?_
       refine p1_ (i := 16) (N := some 29) spec_NotesOk.d17 (any_of HT_.out (by kernel_rfl)) ?_
       refine p0_ (i := 17) (N := some 30) spec_NotesOk.d18 (any_of HT_.out (by kernel_rfl)) ?_
       refine p0_ (i := 18) (N := some 31) spec_NotesOk.d19 (any_of HT_.out (by kernel_rfl)) ?_
       refine p0_ (i := 19) (N := some 32) spec_NotesOk.d20 (any_of HT_.out (by kernel_rfl)) ?_
       refine p0_ (i := 20) (N := some 33) spec_NotesOk.d21 (any_of HT_.out (by kernel_rfl)) ?_
       refine p0_ (i := 21) (N := some 34) spec_NotesOk.d22 (any_of HT_.out (by kernel_rfl)) ?_
       refine p0_ (i := 22) (N := some 35) spec_NotesOk.d23 (any_of HT_.out (by kernel_rfl)) ?_
       refine p0_ (i := 23) (N := some 36) spec_NotesOk.d24 (any_of HT_.out (by kernel_rfl)) ?_
       refine p0_ (i := 24) (N := some 37) spec_NotesOk.d25 (any_of HT_.out (by kernel_rfl)) ?_
       refine p0_ (i := 25) (N := some 38) spec_NotesOk.d30 (any_of HT_.out (by kernel_rfl)) ?_
       refine p0_ (i := 26) (N := some 39) spec_NotesOk.d31 (any_of HT_.out (by kernel_rfl)) ?_
       refine p0_ (i := 27) (N := some 40) spec_NotesOk.d32 (any_of HT_.out (by kernel_rfl)) ?_
       refine p0_ (i := 28) (N := some 41) spec_NotesOk.d33 (any_of HT_.out (by kernel_rfl)) ?_
       refine p0_ (i := 29) (N := some 42) spec_NotesOk.d34 (any_of HT_.out (by kernel_rfl)) ?_
       refine p0_ (i := 30) (N := some 43) spec_NotesOk.d35 (any_of HT_.out (by kernel_rfl)) ?_
       refine p0_ (i := 31) (N := some 44) spec_NotesOk.d36 (any_of HT_.out (by kernel_rfl)) ?_
       refine p0_ (i := 32) (N := some 45) spec_NotesOk.d37 (any_of HT_.out (by kernel_rfl)) ?_
       refine p1_ (i := 33) (N := some 46) spec_NotesOk.d38 (any_of HT_.out (by kernel_rfl)) ?_
       refine done_ (done_of HT_.out (by kernel_rfl)) ?_
       try go_wp2
       go_ret
       exact ⟨ew_, hb_⟩
     ·rw [if_neg c4] at H
      exact absurd H (by simp)
    ·rw [if_neg c3] at H
     have c3b0 : decide (x3_1 < (l0.length : Int)) = false := decide_eq_false c3
     clear c3
     obtain rfl := Option.some.inj H
     go_wp2
     go_ret
     exact ⟨ew_, hb_⟩

end Go.Proofs.Ytfjjlipfjddaiaa.Bo
