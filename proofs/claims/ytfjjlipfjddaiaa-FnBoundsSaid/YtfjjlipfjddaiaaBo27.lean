-- PRINTED by print.py (a twelfth state) out of the translation. Not trusted: Lean checks it.
import Derived.Test.YtfjjlipfjddaiaaBo0
import Derived.Test.YtfjjlipfjddaiaaBo20
import Derived.Test.YtfjjlipfjddaiaaBo22
import Derived.Test.YtfjjlipfjddaiaaBo25
namespace Go.Proofs.Ytfjjlipfjddaiaa.Bo
open Go.RowKit Go.Proofs.YtfjjlipfjddaiaaW.PrintWords Go.Proofs.YtfjjlipfjddaiaaW.PrintLast Go.Proofs.YtfjjlipfjddaiaaW.PrintMore
attribute [local go_sem] max2_int min2_int max_two min_two max_three min_three max_four min_four   -- for this text's walks alone
set_option linter.unusedVariables false
set_option linter.unusedSimpArgs false

/-! ### spec_MovedIn: function 29 -/
mutual
def spec_MovedIn.j0 : Nat → List (S103) → Int → Int → Int → Int → Bool → Option (Int × Int)
  | 0, _, _, _, _, _, _ => none
  | k + 1, x0, x1, x2, x8, x9, x23 => if x23 = true then (some (0, 0)) else (spec_MovedIn.l0 k x0 x1 x2 x8 x9 0)
def spec_MovedIn.l0 : Nat → List (S103) → Int → Int → Int → Int → Int → Option (Int × Int)
  | 0, _, _, _, _, _, _ => none
  | k + 1, x0, x1, x2, x8, x9, x10 => if x10 < (x0.length : Int) then (if 0 ≤ x10 then (if ((rd_T103 x0 x10).f0) ≤ (wrap64 (x1 - x2)) then (spec_MovedIn.j2 k x0 x1 x2 x8 x9 x10 true) else (spec_MovedIn.j2 k x0 x1 x2 x8 x9 x10 (decide (((rd_T103 x0 x10).f0) > x1)))) else (none)) else (some (x8, x9))
def spec_MovedIn.j2 : Nat → List (S103) → Int → Int → Int → Int → Int → Bool → Option (Int × Int)
  | 0, _, _, _, _, _, _, _ => none
  | k + 1, x0, x1, x2, x8, x9, x10, x47 => if x47 = true then (spec_MovedIn.l0 k x0 x1 x2 x8 x9 (wrap64 (x10 + 1))) else (if 0 ≤ x10 then (if x10 < (x0.length : Int) then (if ((rd_T103 x0 x10).f1) > 0 then (spec_MovedIn.l0 k x0 x1 x2 (wrap64 (x8 + ((rd_T103 x0 x10).f1))) x9 (wrap64 (x10 + 1))) else (spec_MovedIn.l0 k x0 x1 x2 x8 (wrap64 (x9 - ((rd_T103 x0 x10).f1))) (wrap64 (x10 + 1)))) else (none)) else (none))
end
def spec_MovedIn.f (k : Nat) (l0 : List (S103)) (a1 : Int) (a2 : Int) : Option (Int × Int) := (spec_MovesOk.f k l0).bind fun t493 => (if t493 = true then ((spec_l02Tick.f a1).bind fun t494 => (if t494 = true then ((spec_l01In.f a2 0 1000).bind fun t495 => (spec_MovedIn.j0 k l0 a1 a2 0 0 (!t495))) else (spec_MovedIn.j0 k l0 a1 a2 0 0 true))) else (spec_MovedIn.j0 k l0 a1 a2 0 0 true))
theorem spec_MovedIn.mono_l : ∀ k, (∀ y0 y1 y2 y3 y4 y5, LeO (spec_MovedIn.j0 k y0 y1 y2 y3 y4 y5) (spec_MovedIn.j0 (k + 1) y0 y1 y2 y3 y4 y5)) ∧ (∀ y0 y1 y2 y3 y4 y5, LeO (spec_MovedIn.l0 k y0 y1 y2 y3 y4 y5) (spec_MovedIn.l0 (k + 1) y0 y1 y2 y3 y4 y5)) ∧ (∀ y0 y1 y2 y3 y4 y5 y6, LeO (spec_MovedIn.j2 k y0 y1 y2 y3 y4 y5 y6) (spec_MovedIn.j2 (k + 1) y0 y1 y2 y3 y4 y5 y6))
  | 0 => ⟨fun _ _ _ _ _ _ r h => by simp [spec_MovedIn.j0] at h, fun _ _ _ _ _ _ r h => by simp [spec_MovedIn.l0] at h, fun _ _ _ _ _ _ _ r h => by simp [spec_MovedIn.j2] at h⟩
  | k + 1 => by
    obtain ⟨ih0, ih1, ih2⟩ := spec_MovedIn.mono_l k
    refine ⟨?_, ?_, ?_⟩
    · intro y0 y1 y2 y3 y4 y5
      unfold spec_MovedIn.j0
      repeat' with_reducible first | exact ih0 _ _ _ _ _ _ | exact ih1 _ _ _ _ _ _ | exact ih2 _ _ _ _ _ _ _ | exact spec_MovesOk.mono _ _ | exact LeO.refl _ | exact LeO.none _ | refine LeO.ite ?_ ?_ | refine LeO.bind ?_ (fun _ => ?_)
    · intro y0 y1 y2 y3 y4 y5
      unfold spec_MovedIn.l0
      repeat' with_reducible first | exact ih0 _ _ _ _ _ _ | exact ih1 _ _ _ _ _ _ | exact ih2 _ _ _ _ _ _ _ | exact spec_MovesOk.mono _ _ | exact LeO.refl _ | exact LeO.none _ | refine LeO.ite ?_ ?_ | refine LeO.bind ?_ (fun _ => ?_)
    · intro y0 y1 y2 y3 y4 y5 y6
      unfold spec_MovedIn.j2
      repeat' with_reducible first | exact ih0 _ _ _ _ _ _ | exact ih1 _ _ _ _ _ _ | exact ih2 _ _ _ _ _ _ _ | exact spec_MovesOk.mono _ _ | exact LeO.refl _ | exact LeO.none _ | refine LeO.ite ?_ ?_ | refine LeO.bind ?_ (fun _ => ?_)
theorem spec_MovedIn.mono : ∀ a0 a1 a2 k, LeO (spec_MovedIn.f k a0 a1 a2) (spec_MovedIn.f (k + 1) a0 a1 a2) := by
  intro a0 a1 a2 k
  obtain ⟨ih0, ih1, ih2⟩ := spec_MovedIn.mono_l k
  unfold spec_MovedIn.f
  repeat' with_reducible first | exact ih0 _ _ _ _ _ _ | exact ih1 _ _ _ _ _ _ | exact ih2 _ _ _ _ _ _ _ | exact spec_MovesOk.mono _ _ | exact LeO.refl _ | exact LeO.none _ | refine LeO.ite ?_ ?_ | refine LeO.bind ?_ (fun _ => ?_)
set_option maxHeartbeats 8000000 in
set_option maxRecDepth 100000 in
theorem spec_MovedIn.calls (k : Nat) (A0 : Option Addr) (c0 : Nat) (l0 : List (S103)) (a1 : Int) (a2 : Int) (r1 : Int) (r2 : Int) (w : World) (hr0 : Kd.C k103 w A0 l0.length l0) (hc0 : l0.length ≤ c0) (h : spec_MovedIn.f k l0 a1 a2 = some (r1, r2)) :
  Calls Try.prog 29 #[.slice A0 l0.length c0, .int .i64 a1, .int .i64 a2] w fun e w' => e = .returned (.tuple #[.int .i64 r1, .int .i64 r2]) ∧ Below w.heap.size w w' := by
 have HR0 := ak_ hr0
 have HC0 := ak_ hc0
 clear hr0 hc0
 have HB := ak_ (Below.refl w.heap.size w)
 have H : ((spec_MovesOk.f k l0).bind fun t493 => (if t493 = true then ((spec_l02Tick.f a1).bind fun t494 => (if t494 = true then ((spec_l01In.f a2 0 1000).bind fun t495 => (spec_MovedIn.j0 k l0 a1 a2 0 0 (!t495))) else (spec_MovedIn.j0 k l0 a1 a2 0 0 true))) else (spec_MovedIn.j0 k l0 a1 a2 0 0 true))) = some (r1, r2) := h
 clear h
 have HC4 := ak_ H
 clear H
 go_enter Try.func29, Try.ntmps29
 go_upto_region 3 with (fail)
 go_cut [23] (fun v23 wc => ∃ (kq : Nat) (x23_3 : Bool), v23 = .bool x23_3 ∧ Aside0 (spec_MovedIn.j0 kq l0 a1 a2 0 0 x23_3 = some (r1, r2)) ∧ Aside0 (kq ≤ k) ∧ Aside0 (Below w.heap.size w wc))
 case first =>
  have H := HC4.out
  clear HC4
  replace H := Option.bind_eq_some_iff.mp H
  obtain ⟨t493, A50, H⟩ := H
  replace H : (if t493 = true then ((spec_l02Tick.f a1).bind fun t494 => (if t494 = true then ((spec_l01In.f a2 0 1000).bind fun t495 => (spec_MovedIn.j0 k l0 a1 a2 0 0 (!t495))) else (spec_MovedIn.j0 k l0 a1 a2 0 0 true))) else (spec_MovedIn.j0 k l0 a1 a2 0 0 true)) = some (r1, r2) := H
  have A5 := ak_ A50
  clear A50
  by_cases c6 : t493 = true
  ·subst c6
   rw [if_pos rfl] at H
   replace H := Option.bind_eq_some_iff.mp H
   obtain ⟨t494, A70, H⟩ := H
   replace H : (if t494 = true then ((spec_l01In.f a2 0 1000).bind fun t495 => (spec_MovedIn.j0 k l0 a1 a2 0 0 (!t495))) else (spec_MovedIn.j0 k l0 a1 a2 0 0 true)) = some (r1, r2) := H
   have A7 := ak_ A70
   clear A70
   by_cases c8 : t494 = true
   ·subst c8
    rw [if_pos rfl] at H
    replace H := Option.bind_eq_some_iff.mp H
    obtain ⟨t495, A90, H⟩ := H
    replace H : (spec_MovedIn.j0 k l0 a1 a2 0 0 (!t495)) = some (r1, r2) := H
    have A9 := ak_ A90
    clear A90
    have H' := ak_ H
    clear H
    go_wp2_with (first | ((with_reducible refine gate_callee (f := 78) rfl ?_); refine goesL_ (some 12) rfl rfl Try.func78 (by kernel_rfl) rfl #[.slice A0 l0.length c0] rfl (ma1_ rfl) ?_; (with_reducible refine (spec_MovesOk.calls k _ _ l0 true _ ?side1 ?side2 A5.out).mono ?_); (case side1 => exact kc_ HR0); (case side2 => exact HC0.out); rintro e w10 ⟨rfl, hb⟩; refine ⟨_, rfl, ?_⟩; replace HB := ak_ (below_step hb_ hb); (try clear hb)) | (go_at_call 79; (with_reducible refine (spec_l02Tick.calls a1 true _ A7.out).mono ?_); rintro e w' ⟨rfl, ⟨nd, rfl⟩⟩) | (go_at_call 80; (with_reducible refine (spec_l01In.calls a2 0 1000 t495 _ A9.out).mono ?_); rintro e w' ⟨rfl, ⟨nd, rfl⟩⟩))
    go_meet
    case rel => exact ⟨_, (!t495), (by first | rfl | (simp; done) | (simp [*]; done)), H', ⟨by first | omega | exact Nat.le_refl _⟩, ⟨hb_⟩⟩
   ·replace c8 := Bool.eq_false_iff.mpr c8
    subst c8
    rw [if_neg (show ¬ (false = true) by decide)] at H
    have H' := ak_ H
    clear H
    go_wp2_with (first | ((with_reducible refine gate_callee (f := 78) rfl ?_); refine goesL_ (some 12) rfl rfl Try.func78 (by kernel_rfl) rfl #[.slice A0 l0.length c0] rfl (ma1_ rfl) ?_; (with_reducible refine (spec_MovesOk.calls k _ _ l0 true _ ?side1 ?side2 A5.out).mono ?_); (case side1 => exact kc_ HR0); (case side2 => exact HC0.out); rintro e w11 ⟨rfl, hb⟩; refine ⟨_, rfl, ?_⟩; replace HB := ak_ (below_step hb_ hb); (try clear hb)) | (go_at_call 79; (with_reducible refine (spec_l02Tick.calls a1 false _ A7.out).mono ?_); rintro e w' ⟨rfl, ⟨nd, rfl⟩⟩))
    go_meet
    case rel => exact ⟨_, (true), (by first | rfl | (simp; done) | (simp [*]; done)), H', ⟨by first | omega | exact Nat.le_refl _⟩, ⟨hb_⟩⟩
  ·replace c6 := Bool.eq_false_iff.mpr c6
   subst c6
   rw [if_neg (show ¬ (false = true) by decide)] at H
   have H' := ak_ H
   clear H
   go_wp2_with (first | ((with_reducible refine gate_callee (f := 78) rfl ?_); refine goesL_ (some 12) rfl rfl Try.func78 (by kernel_rfl) rfl #[.slice A0 l0.length c0] rfl (ma1_ rfl) ?_; (with_reducible refine (spec_MovesOk.calls k _ _ l0 false _ ?side1 ?side2 A5.out).mono ?_); (case side1 => exact kc_ HR0); (case side2 => exact HC0.out); rintro e w12 ⟨rfl, hb⟩; refine ⟨_, rfl, ?_⟩; replace HB := ak_ (below_step hb_ hb); (try clear hb)))
   go_meet
   case rel => exact ⟨_, (true), (by first | rfl | (simp; done) | (simp [*]; done)), H', ⟨by first | omega | exact Nat.le_refl _⟩, ⟨hb_⟩⟩
 case rest =>
  clear HC4
  try clear c2
  try clear p2
  try clear c6
  try clear c7
  try clear c8
  obtain ⟨kq, x23_3, rfl, HA, HJ3, HB⟩ := hcut
  cases kq with
  | zero => exact absurd HA.out (by simp [spec_MovedIn.j0])
  | succ kj3 =>
   have H := HA.out
   clear HA
   simp only [spec_MovedIn.j0] at H
   by_cases c13 : x23_3 = true
   ·subst c13
    rw [if_pos rfl] at H
    simp only [Option.some.injEq, Prod.mk.injEq] at H
    obtain ⟨rfl, rfl⟩ := H
    go_wp2
    go_ret2
    exact ⟨ew_, hb_⟩
   ·replace c13 := Bool.eq_false_iff.mpr c13
    subst c13
    rw [if_neg (show ¬ (false = true) by decide)] at H
    have H' := ak_ H
    clear H
    go_wp2
    go_loopg [8, 9, 10] kj3 (fun kq v8 v9 v10 w' => ∃ (x8_2 : Int) (x9_2 : Int) (x10_2 : Int), v8 = .int .i64 x8_2 ∧ v9 = .int .i64 x9_2 ∧ v10 = .int .i64 x10_2 ∧ Aside0 (spec_MovedIn.l0 kq l0 a1 a2 x8_2 x9_2 x10_2 = some (r1, r2)) ∧ Aside0 (kq ≤ kj3) ∧ Aside0 (Below w.heap.size w w'))
    case atStart => exact ⟨(0), (0), (0), (by first | rfl | (simp; done) | (simp [*]; done)), (by first | rfl | (simp; done) | (simp [*]; done)), (by first | rfl | (simp; done) | (simp [*]; done)), H', ⟨Nat.le_refl _⟩, ⟨hb_⟩⟩
    case round =>
     clear H'
     try clear c1
     try clear c2
     try clear p2
     try clear c6
     try clear c7
     try clear c8
     try clear c13
     try clear p2
     obtain ⟨x8_2, x9_2, x10_2, rfl, rfl, rfl, HA, HK2, HB⟩ := hrel
     cases gk with
     | zero => exact absurd HA.out (by simp [spec_MovedIn.l0])
     | succ k2 =>
      have H := HA.out
      clear HA
      simp only [spec_MovedIn.l0] at H
      by_cases c14 : x10_2 < (l0.length : Int)
      ·rw [if_pos c14] at H
       have c14b0 : decide (x10_2 < (l0.length : Int)) = true := decide_eq_true c14
       clear c14
       have HC15 := ak_ H
       clear H
       go_upto_region 8 with (fail)
       go_cut [47] (fun v47 wc => ∃ (kq : Nat) (x47_14 : Bool), v47 = .bool x47_14 ∧ Aside0 (spec_MovedIn.j2 kq l0 a1 a2 x8_2 x9_2 x10_2 x47_14 = some (r1, r2)) ∧ Aside0 (kq ≤ k2) ∧ Aside0 (Below w.heap.size w wc))
       case first =>
        have H := HC15.out
        clear HC15
        by_cases c16 : 0 ≤ x10_2
        ·rw [if_pos c16] at H
         have c16b0 : decide (0 ≤ x10_2) = true := decide_eq_true c16
         clear c16
         (first | rw [c16b0] | (simp only [i64_w, i32_w]; rw [c16b0]) | skip)
         by_cases c17 : ((rd_T103 l0 x10_2).f0) ≤ (wrap64 (a1 - a2))
         ·rw [if_pos c17] at H
          have c17b0 : decide (((rd_T103 l0 x10_2).f0) ≤ (wrap64 (a1 - a2))) = true := decide_eq_true c17
          clear c17
          have H' := ak_ H
          clear H
          have p496 : 0 ≤ (x10_2 : Int) := of_decide_eq_true (by first | (with_reducible assumption) | assumption)
          have q496 : x10_2 < (l0.length : Int) := of_decide_eq_true (by first | (with_reducible assumption) | assumption)
          obtain ⟨ad496, e496, hx496_0, hx496_1⟩ := at_T103 HR0.out x10_2 p496 q496
          cases e496
          replace hx496_0 := cx_ HB hx496_0
          replace hx496_1 := cx_ HB hx496_1
          replace p496 := eq_true p496
          replace q496 := eq_true q496
          go_wp2
          go_meet
          case rel => exact ⟨_, (true), (by first | rfl | (simp; done) | (simp [*]; done)), H', ⟨by have := HJ3.out; have := HK2.out; first | omega | exact Nat.le_refl _⟩, ⟨hb_⟩⟩
         ·rw [if_neg c17] at H
          have c17b0 : decide (((rd_T103 l0 x10_2).f0) ≤ (wrap64 (a1 - a2))) = false := decide_eq_false c17
          clear c17
          have H' := ak_ H
          clear H
          have p496 : 0 ≤ (x10_2 : Int) := of_decide_eq_true (by first | (with_reducible assumption) | assumption)
          have q496 : x10_2 < (l0.length : Int) := of_decide_eq_true (by first | (with_reducible assumption) | assumption)
          obtain ⟨ad496, e496, hx496_0, hx496_1⟩ := at_T103 HR0.out x10_2 p496 q496
          cases e496
          replace hx496_0 := cx_ HB hx496_0
          replace hx496_1 := cx_ HB hx496_1
          replace p496 := eq_true p496
          replace q496 := eq_true q496
          have p497 : 0 ≤ (x10_2 : Int) := of_decide_eq_true (by first | (with_reducible assumption) | assumption)
          have q497 : x10_2 < (l0.length : Int) := of_decide_eq_true (by first | (with_reducible assumption) | assumption)
          obtain ⟨ad497, e497, hx497_0, hx497_1⟩ := at_T103 HR0.out x10_2 p497 q497
          obtain rfl : ad496 = ad497 := (by injection e497)
          replace hx497_0 := cx_ HB hx497_0
          replace hx497_1 := cx_ HB hx497_1
          replace p497 := eq_true p497
          replace q497 := eq_true q497
          go_wp2
          go_meet
          case rel => exact ⟨_, (decide (((rd_T103 l0 x10_2).f0) > a1)), (by first | rfl | (simp; done) | (simp [*]; done)), H', ⟨by have := HJ3.out; have := HK2.out; first | omega | exact Nat.le_refl _⟩, ⟨hb_⟩⟩
        ·rw [if_neg c16] at H
         exact absurd H (by simp)
       case rest =>
        clear HC15
        try clear c1
        try clear c2
        try clear p2
        try clear p4
        try clear q4
        try clear hx4
        try clear c6
        try clear p6
        try clear c7
        try clear c8
        try clear c13
        try clear c14
        try clear c14b0
        try clear c16
        try clear c16b0
        try clear c17
        try clear c17b0
        try clear hx496_0
        try clear hx496_1
        try clear hx497_0
        try clear hx497_1
        try clear p2
        try clear p496
        try clear p497
        try clear q496
        try clear q497
        obtain ⟨kq, x47_14, rfl, HA, HJ14, HB⟩ := hcut
        cases kq with
        | zero => exact absurd HA.out (by simp [spec_MovedIn.j2])
        | succ kj14 =>
         have H := HA.out
         clear HA
         simp only [spec_MovedIn.j2] at H
         by_cases c18 : x47_14 = true
         ·subst c18
          rw [if_pos rfl] at H
          have H' := ak_ H
          clear H
          go_wp2
          go_roundg kj14
          case measure => have := HJ3.out; have := HK2.out; have := HJ14.out; omega
          case rel => exact ⟨(x8_2), (x9_2), (wrap64 (x10_2 + 1)), (by first | rfl | (simp; done) | (simp [*]; done)), (by first | rfl | (simp; done) | (simp [*]; done)), (by first | rfl | (simp; done) | (simp [*]; done)), H', ⟨by have := HJ3.out; have := HK2.out; have := HJ14.out; omega⟩, ⟨hb_⟩⟩
         ·replace c18 := Bool.eq_false_iff.mpr c18
          subst c18
          rw [if_neg (show ¬ (false = true) by decide)] at H
          by_cases c19 : 0 ≤ x10_2
          ·rw [if_pos c19] at H
           have c19b0 : decide (0 ≤ x10_2) = true := decide_eq_true c19
           clear c19
           by_cases c20 : x10_2 < (l0.length : Int)
           ·rw [if_pos c20] at H
            have c20b0 : decide (x10_2 < (l0.length : Int)) = true := decide_eq_true c20
            clear c20
            by_cases c21 : ((rd_T103 l0 x10_2).f1) > 0
            ·rw [if_pos c21] at H
             have c21b0 : decide (0 < ((rd_T103 l0 x10_2).f1)) = true := decide_eq_true c21
             clear c21
             have H' := ak_ H
             clear H
             have p498 : 0 ≤ (x10_2 : Int) := of_decide_eq_true (by first | (with_reducible assumption) | assumption)
             have q498 : x10_2 < (l0.length : Int) := of_decide_eq_true (by first | (with_reducible assumption) | assumption)
             obtain ⟨ad498, e498, hx498_0, hx498_1⟩ := at_T103 HR0.out x10_2 p498 q498
             cases e498
             replace hx498_0 := cx_ HB hx498_0
             replace hx498_1 := cx_ HB hx498_1
             replace p498 := eq_true p498
             replace q498 := eq_true q498
             have p499 : 0 ≤ (x10_2 : Int) := of_decide_eq_true (by first | (with_reducible assumption) | assumption)
             have q499 : x10_2 < (l0.length : Int) := of_decide_eq_true (by first | (with_reducible assumption) | assumption)
             obtain ⟨ad499, e499, hx499_0, hx499_1⟩ := at_T103 HR0.out x10_2 p499 q499
             obtain rfl : ad498 = ad499 := (by injection e499)
             replace hx499_0 := cx_ HB hx499_0
             replace hx499_1 := cx_ HB hx499_1
             replace p499 := eq_true p499
             replace q499 := eq_true q499
             go_wp2
             go_roundg kj14
             case measure => have := HJ3.out; have := HK2.out; have := HJ14.out; omega
             case rel => exact ⟨(wrap64 (x8_2 + ((rd_T103 l0 x10_2).f1))), (x9_2), (wrap64 (x10_2 + 1)), (by first | rfl | (simp; done) | (simp [*]; done)), (by first | rfl | (simp; done) | (simp [*]; done)), (by first | rfl | (simp; done) | (simp [*]; done)), H', ⟨by have := HJ3.out; have := HK2.out; have := HJ14.out; omega⟩, ⟨hb_⟩⟩
            ·rw [if_neg c21] at H
             have c21b0 : decide (0 < ((rd_T103 l0 x10_2).f1)) = false := decide_eq_false c21
             clear c21
             have H' := ak_ H
             clear H
             have p498 : 0 ≤ (x10_2 : Int) := of_decide_eq_true (by first | (with_reducible assumption) | assumption)
             have q498 : x10_2 < (l0.length : Int) := of_decide_eq_true (by first | (with_reducible assumption) | assumption)
             obtain ⟨ad498, e498, hx498_0, hx498_1⟩ := at_T103 HR0.out x10_2 p498 q498
             cases e498
             replace hx498_0 := cx_ HB hx498_0
             replace hx498_1 := cx_ HB hx498_1
             replace p498 := eq_true p498
             replace q498 := eq_true q498
             have p500 : 0 ≤ (x10_2 : Int) := of_decide_eq_true (by first | (with_reducible assumption) | assumption)
             have q500 : x10_2 < (l0.length : Int) := of_decide_eq_true (by first | (with_reducible assumption) | assumption)
             obtain ⟨ad500, e500, hx500_0, hx500_1⟩ := at_T103 HR0.out x10_2 p500 q500
             obtain rfl : ad498 = ad500 := (by injection e500)
             replace hx500_0 := cx_ HB hx500_0
             replace hx500_1 := cx_ HB hx500_1
             replace p500 := eq_true p500
             replace q500 := eq_true q500
             go_wp2
             go_roundg kj14
             case measure => have := HJ3.out; have := HK2.out; have := HJ14.out; omega
             case rel => exact ⟨(x8_2), (wrap64 (x9_2 - ((rd_T103 l0 x10_2).f1))), (wrap64 (x10_2 + 1)), (by first | rfl | (simp; done) | (simp [*]; done)), (by first | rfl | (simp; done) | (simp [*]; done)), (by first | rfl | (simp; done) | (simp [*]; done)), H', ⟨by have := HJ3.out; have := HK2.out; have := HJ14.out; omega⟩, ⟨hb_⟩⟩
           ·rw [if_neg c20] at H
            exact absurd H (by simp)
          ·rw [if_neg c19] at H
           exact absurd H (by simp)
      ·rw [if_neg c14] at H
       have c14b0 : decide (x10_2 < (l0.length : Int)) = false := decide_eq_false c14
       clear c14
       simp only [Option.some.injEq, Prod.mk.injEq] at H
       obtain ⟨rfl, rfl⟩ := H
       go_wp2
       go_ret2
       exact ⟨ew_, hb_⟩

end Go.Proofs.Ytfjjlipfjddaiaa.Bo
