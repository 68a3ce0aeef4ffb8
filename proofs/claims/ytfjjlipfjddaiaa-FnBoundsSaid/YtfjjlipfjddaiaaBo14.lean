-- PRINTED by print.py (a twelfth state) out of the translation. Not trusted: Lean checks it.
import Derived.Test.YtfjjlipfjddaiaaBo0
import Derived.Test.YtfjjlipfjddaiaaBo8
import Derived.Test.YtfjjlipfjddaiaaBo10
import Derived.Test.YtfjjlipfjddaiaaBo13
namespace Go.Proofs.Ytfjjlipfjddaiaa.Bo
open Go.RowKit Go.Proofs.YtfjjlipfjddaiaaW.PrintWords Go.Proofs.YtfjjlipfjddaiaaW.PrintLast Go.Proofs.YtfjjlipfjddaiaaW.PrintMore
attribute [local go_sem] max2_int min2_int max_two min_two max_three min_three max_four min_four   -- for this text's walks alone
set_option linter.unusedVariables false
set_option linter.unusedSimpArgs false

/-! ### impl_MovedIn: function 31 -/
mutual
def impl_MovedIn.j0 : Nat → List (S103) → Int → Int → Bool → Option (Int × Int)
  | 0, _, _, _, _ => none
  | k + 1, x0, x1, x2, x24 => if x24 = true then (some (0, 0)) else (impl_MovedIn.l0 k x1 x2 0 0 x0 (x0.length : Int) 0)
def impl_MovedIn.l0 : Nat → Int → Int → Int → Int → List (S103) → Int → Int → Option (Int × Int)
  | 0, _, _, _, _, _, _, _ => none
  | k + 1, x1, x2, x8, x9, x25, x26, x27 => if x27 < x26 then (if 0 ≤ x27 then (if x27 < (x25.length : Int) then (if ((rd_T103 x25 x27).f0) > (wrap64 (x1 - x2)) then (if ((rd_T103 x25 x27).f0) ≤ x1 then (impl_MovedIn.l0 k x1 x2 (wrap64 (x8 + (mx 0 ((rd_T103 x25 x27).f1)))) (wrap64 (x9 + (mx 0 (wrap64 (-((rd_T103 x25 x27).f1)))))) x25 x26 (wrap64 (x27 + 1))) else (impl_MovedIn.l0 k x1 x2 x8 x9 x25 x26 (wrap64 (x27 + 1)))) else (impl_MovedIn.l0 k x1 x2 x8 x9 x25 x26 (wrap64 (x27 + 1)))) else (none)) else (none)) else (some (x8, x9))
end
def impl_MovedIn.f (k : Nat) (l0 : List (S103)) (a1 : Int) (a2 : Int) : Option (Int × Int) := (impl_MovesOk.f k l0).bind fun t410 => (if t410 = true then ((impl_isTick.f a1).bind fun t411 => (if t411 = true then ((impl_in.f a2 0 1000).bind fun t412 => (impl_MovedIn.j0 k l0 a1 a2 (!t412))) else (impl_MovedIn.j0 k l0 a1 a2 true))) else (impl_MovedIn.j0 k l0 a1 a2 true))
theorem impl_MovedIn.mono_l : ∀ k, (∀ y0 y1 y2 y3, LeO (impl_MovedIn.j0 k y0 y1 y2 y3) (impl_MovedIn.j0 (k + 1) y0 y1 y2 y3)) ∧ (∀ y0 y1 y2 y3 y4 y5 y6, LeO (impl_MovedIn.l0 k y0 y1 y2 y3 y4 y5 y6) (impl_MovedIn.l0 (k + 1) y0 y1 y2 y3 y4 y5 y6))
  | 0 => ⟨fun _ _ _ _ r h => by simp [impl_MovedIn.j0] at h, fun _ _ _ _ _ _ _ r h => by simp [impl_MovedIn.l0] at h⟩
  | k + 1 => by
    obtain ⟨ih0, ih1⟩ := impl_MovedIn.mono_l k
    refine ⟨?_, ?_⟩
    · intro y0 y1 y2 y3
      unfold impl_MovedIn.j0
      repeat' with_reducible first | exact ih0 _ _ _ _ | exact ih1 _ _ _ _ _ _ _ | exact impl_MovesOk.mono _ _ | exact LeO.refl _ | exact LeO.none _ | refine LeO.ite ?_ ?_ | refine LeO.bind ?_ (fun _ => ?_)
    · intro y0 y1 y2 y3 y4 y5 y6
      unfold impl_MovedIn.l0
      repeat' with_reducible first | exact ih0 _ _ _ _ | exact ih1 _ _ _ _ _ _ _ | exact impl_MovesOk.mono _ _ | exact LeO.refl _ | exact LeO.none _ | refine LeO.ite ?_ ?_ | refine LeO.bind ?_ (fun _ => ?_)
theorem impl_MovedIn.mono : ∀ a0 a1 a2 k, LeO (impl_MovedIn.f k a0 a1 a2) (impl_MovedIn.f (k + 1) a0 a1 a2) := by
  intro a0 a1 a2 k
  obtain ⟨ih0, ih1⟩ := impl_MovedIn.mono_l k
  unfold impl_MovedIn.f
  repeat' with_reducible first | exact ih0 _ _ _ _ | exact ih1 _ _ _ _ _ _ _ | exact impl_MovesOk.mono _ _ | exact LeO.refl _ | exact LeO.none _ | refine LeO.ite ?_ ?_ | refine LeO.bind ?_ (fun _ => ?_)
set_option maxHeartbeats 8000000 in
set_option maxRecDepth 100000 in
theorem impl_MovedIn.calls (k : Nat) (A0 : Option Addr) (c0 : Nat) (l0 : List (S103)) (a1 : Int) (a2 : Int) (r1 : Int) (r2 : Int) (w : World) (hr0 : Kd.C k103 w A0 l0.length l0) (hc0 : l0.length ≤ c0) (h : impl_MovedIn.f k l0 a1 a2 = some (r1, r2)) :
  Calls Try.prog 31 #[.slice A0 l0.length c0, .int .i64 a1, .int .i64 a2] w fun e w' => e = .returned (.tuple #[.int .i64 r1, .int .i64 r2]) ∧ Below w.heap.size w w' := by
 have hu103 := Try.underlying103
 have HR0 := ak_ hr0
 have HC0 := ak_ hc0
 clear hr0 hc0
 have HB := ak_ (Below.refl w.heap.size w)
 have H : ((impl_MovesOk.f k l0).bind fun t410 => (if t410 = true then ((impl_isTick.f a1).bind fun t411 => (if t411 = true then ((impl_in.f a2 0 1000).bind fun t412 => (impl_MovedIn.j0 k l0 a1 a2 (!t412))) else (impl_MovedIn.j0 k l0 a1 a2 true))) else (impl_MovedIn.j0 k l0 a1 a2 true))) = some (r1, r2) := h
 clear h
 have HC4 := ak_ H
 clear H
 go_enter Try.func31, Try.ntmps31
 go_upto_region 1 with (fail)
 go_cut [24] (fun v24 wc => ∃ (kq : Nat) (x24_3 : Bool), v24 = .bool x24_3 ∧ Aside0 (impl_MovedIn.j0 kq l0 a1 a2 x24_3 = some (r1, r2)) ∧ Aside0 (kq ≤ k) ∧ Aside0 (Below w.heap.size w wc))
 case first =>
  have H := HC4.out
  clear HC4
  replace H := Option.bind_eq_some_iff.mp H
  obtain ⟨t410, A50, H⟩ := H
  replace H : (if t410 = true then ((impl_isTick.f a1).bind fun t411 => (if t411 = true then ((impl_in.f a2 0 1000).bind fun t412 => (impl_MovedIn.j0 k l0 a1 a2 (!t412))) else (impl_MovedIn.j0 k l0 a1 a2 true))) else (impl_MovedIn.j0 k l0 a1 a2 true)) = some (r1, r2) := H
  have A5 := ak_ A50
  clear A50
  by_cases c6 : t410 = true
  ·subst c6
   rw [if_pos rfl] at H
   replace H := Option.bind_eq_some_iff.mp H
   obtain ⟨t411, A70, H⟩ := H
   replace H : (if t411 = true then ((impl_in.f a2 0 1000).bind fun t412 => (impl_MovedIn.j0 k l0 a1 a2 (!t412))) else (impl_MovedIn.j0 k l0 a1 a2 true)) = some (r1, r2) := H
   have A7 := ak_ A70
   clear A70
   by_cases c8 : t411 = true
   ·subst c8
    rw [if_pos rfl] at H
    replace H := Option.bind_eq_some_iff.mp H
    obtain ⟨t412, A90, H⟩ := H
    replace H : (impl_MovedIn.j0 k l0 a1 a2 (!t412)) = some (r1, r2) := H
    have A9 := ak_ A90
    clear A90
    have H' := ak_ H
    clear H
    go_wp2_with (first | ((with_reducible refine gate_callee (f := 66) rfl ?_); refine goesL_ (some 13) rfl rfl Try.func66 (by kernel_rfl) rfl #[.slice A0 l0.length c0] rfl (ma1_ rfl) ?_; (with_reducible refine (impl_MovesOk.calls k _ _ l0 true _ ?side1 ?side2 A5.out).mono ?_); (case side1 => exact kc_ HR0); (case side2 => exact HC0.out); rintro e w10 ⟨rfl, hb⟩; refine ⟨_, rfl, ?_⟩; replace HB := ak_ (below_step hb_ hb); (try clear hb)) | (go_at_call 67; (with_reducible refine (impl_isTick.calls a1 true _ A7.out).mono ?_); rintro e w' ⟨rfl, ⟨nd, rfl⟩⟩) | (go_at_call 82; (with_reducible refine (impl_in.calls a2 0 1000 t412 _ A9.out).mono ?_); rintro e w' ⟨rfl, ⟨nd, rfl⟩⟩))
    go_meet
    case rel => exact ⟨_, (!t412), (by first | rfl | (simp; done) | (simp [*]; done)), H', ⟨by first | omega | exact Nat.le_refl _⟩, ⟨hb_⟩⟩
   ·replace c8 := Bool.eq_false_iff.mpr c8
    subst c8
    rw [if_neg (show ¬ (false = true) by decide)] at H
    have H' := ak_ H
    clear H
    go_wp2_with (first | ((with_reducible refine gate_callee (f := 66) rfl ?_); refine goesL_ (some 13) rfl rfl Try.func66 (by kernel_rfl) rfl #[.slice A0 l0.length c0] rfl (ma1_ rfl) ?_; (with_reducible refine (impl_MovesOk.calls k _ _ l0 true _ ?side1 ?side2 A5.out).mono ?_); (case side1 => exact kc_ HR0); (case side2 => exact HC0.out); rintro e w11 ⟨rfl, hb⟩; refine ⟨_, rfl, ?_⟩; replace HB := ak_ (below_step hb_ hb); (try clear hb)) | (go_at_call 67; (with_reducible refine (impl_isTick.calls a1 false _ A7.out).mono ?_); rintro e w' ⟨rfl, ⟨nd, rfl⟩⟩))
    go_meet
    case rel => exact ⟨_, (true), (by first | rfl | (simp; done) | (simp [*]; done)), H', ⟨by first | omega | exact Nat.le_refl _⟩, ⟨hb_⟩⟩
  ·replace c6 := Bool.eq_false_iff.mpr c6
   subst c6
   rw [if_neg (show ¬ (false = true) by decide)] at H
   have H' := ak_ H
   clear H
   go_wp2_with (first | ((with_reducible refine gate_callee (f := 66) rfl ?_); refine goesL_ (some 13) rfl rfl Try.func66 (by kernel_rfl) rfl #[.slice A0 l0.length c0] rfl (ma1_ rfl) ?_; (with_reducible refine (impl_MovesOk.calls k _ _ l0 false _ ?side1 ?side2 A5.out).mono ?_); (case side1 => exact kc_ HR0); (case side2 => exact HC0.out); rintro e w12 ⟨rfl, hb⟩; refine ⟨_, rfl, ?_⟩; replace HB := ak_ (below_step hb_ hb); (try clear hb)))
   go_meet
   case rel => exact ⟨_, (true), (by first | rfl | (simp; done) | (simp [*]; done)), H', ⟨by first | omega | exact Nat.le_refl _⟩, ⟨hb_⟩⟩
 case rest =>
  clear HC4
  try clear p2
  try clear c3
  try clear c6
  try clear c8
  obtain ⟨kq, x24_3, rfl, HA, HJ3, HB⟩ := hcut
  cases kq with
  | zero => exact absurd HA.out (by simp [impl_MovedIn.j0])
  | succ kj3 =>
   have H := HA.out
   clear HA
   simp only [impl_MovedIn.j0] at H
   by_cases c13 : x24_3 = true
   ·subst c13
    rw [if_pos rfl] at H
    simp only [Option.some.injEq, Prod.mk.injEq] at H
    obtain ⟨rfl, rfl⟩ := H
    go_wp2
    go_ret2
    exact ⟨ew_, hb_⟩
   ·replace c13 := Bool.eq_false_iff.mpr c13
    subst c13
    rw [if_neg (show ¬ (false = true) by decide)] at H
    have H' := ak_ H
    clear H
    go_wp2
    go_loopg [8, 9, 27] kj3 (fun kq v8 v9 v27 w' => ∃ (x8_2 : Int) (x9_2 : Int) (x27_2 : Int), v8 = .int .i64 x8_2 ∧ v9 = .int .i64 x9_2 ∧ v27 = .int .i64 x27_2 ∧ Aside0 (impl_MovedIn.l0 kq a1 a2 x8_2 x9_2 l0 (l0.length : Int) x27_2 = some (r1, r2)) ∧ Aside0 (kq ≤ kj3) ∧ Aside0 (Below w.heap.size w w'))
    case atStart => exact ⟨(0), (0), (0), (by first | rfl | (simp; done) | (simp [*]; done)), (by first | rfl | (simp; done) | (simp [*]; done)), (by first | rfl | (simp; done) | (simp [*]; done)), H', ⟨Nat.le_refl _⟩, ⟨hb_⟩⟩
    case round =>
     clear H'
     try clear c1
     try clear p2
     try clear c3
     try clear c6
     try clear c8
     try clear c13
     try clear p2
     obtain ⟨x8_2, x9_2, x27_2, rfl, rfl, rfl, HA, HK2, HB⟩ := hrel
     cases gk with
     | zero => exact absurd HA.out (by simp [impl_MovedIn.l0])
     | succ k2 =>
      have H := HA.out
      clear HA
      simp only [impl_MovedIn.l0] at H
      by_cases c14 : x27_2 < (l0.length : Int)
      ·rw [if_pos c14] at H
       have c14b0 : decide (x27_2 < (l0.length : Int)) = true := decide_eq_true c14
       clear c14
       by_cases c15 : 0 ≤ x27_2
       ·rw [if_pos c15] at H
        have c15b0 : decide (0 ≤ x27_2) = true := decide_eq_true c15
        clear c15
        by_cases c16 : x27_2 < (l0.length : Int)
        ·rw [if_pos c16] at H
         have c16b0 : decide (x27_2 < (l0.length : Int)) = true := decide_eq_true c16
         clear c16
         by_cases c17 : ((rd_T103 l0 x27_2).f0) > (wrap64 (a1 - a2))
         ·rw [if_pos c17] at H
          have c17b0 : decide ((wrap64 (a1 - a2)) < ((rd_T103 l0 x27_2).f0)) = true := decide_eq_true c17
          clear c17
          by_cases c18 : ((rd_T103 l0 x27_2).f0) ≤ a1
          ·rw [if_pos c18] at H
           have c18b0 : decide (((rd_T103 l0 x27_2).f0) ≤ a1) = true := decide_eq_true c18
           clear c18
           obtain ⟨ji19, hji19⟩ : ∃ j_ : Int, (mx 0 ((rd_T103 l0 x27_2).f1)) = j_ := ⟨_, rfl⟩
           replace H : (impl_MovedIn.l0 k2 a1 a2 (wrap64 (x8_2 + (ji19))) (wrap64 (x9_2 + (mx 0 (wrap64 (-((rd_T103 l0 x27_2).f1)))))) l0 (l0.length : Int) (wrap64 (x27_2 + 1))) = some (r1, r2) := by first | (rw [hji19] at H; exact H) | (simp only [hji19] at H ⊢; exact H)
           have hji19_ : (if 0 < ((rd_T103 l0 x27_2).f1) then ((rd_T103 l0 x27_2).f1) else 0) = ji19 := hji19
           obtain ⟨ji20, hji20⟩ : ∃ j_ : Int, (mx 0 (wrap64 (-((rd_T103 l0 x27_2).f1)))) = j_ := ⟨_, rfl⟩
           replace H : (impl_MovedIn.l0 k2 a1 a2 (wrap64 (x8_2 + (ji19))) (wrap64 (x9_2 + (ji20))) l0 (l0.length : Int) (wrap64 (x27_2 + 1))) = some (r1, r2) := by first | (rw [hji20] at H; exact H) | (simp only [hji20] at H ⊢; exact H)
           have hji20_ : (if 0 < (wrap64 (-((rd_T103 l0 x27_2).f1))) then (wrap64 (-((rd_T103 l0 x27_2).f1))) else 0) = ji20 := hji20
           have H' := ak_ H
           clear H
           have p413 : 0 ≤ (x27_2 : Int) := of_decide_eq_true (by first | (with_reducible assumption) | assumption)
           have q413 : x27_2 < (l0.length : Int) := of_decide_eq_true (by first | (with_reducible assumption) | assumption)
           obtain ⟨ad413, e413, hx413_0, hx413_1⟩ := at_T103 HR0.out x27_2 p413 q413
           cases e413
           replace hx413_0 := cx_ HB hx413_0
           replace hx413_1 := cx_ HB hx413_1
           replace p413 := eq_true p413
           replace q413 := eq_true q413
           go_wp2_with (first | ((with_reducible refine gate_dst (N := 11) rfl ?_); refine be_ (N := 11) (cs := #[.int .i64 0, .int .i64 0]) (t := 103) ?_; intro gb414 hg w21 hbox hb; have BK414 := ak_ hbox; have GW414 := ak_ ((gs_ hg : w.heap.size ≤ gb414)); have GE414 := ak_ ((gs_ hg : w.heap.size ≤ gb414)); replace HB := ak_ (below_step hb_ hb); clear hb hbox hg; obtain ⟨hcz22_0, hcz22_1, hfz22_0, hfz22_1⟩ := bc2_ BK414.out))
           go_roundg k2
           case measure => have := HJ3.out; have := HK2.out; omega
           case rel => exact ⟨(wrap64 (x8_2 + (ji19))), (wrap64 (x9_2 + (ji20))), (wrap64 (x27_2 + 1)), (by first | rfl | (simp; done) | (simp only [← hji19] <;> (first | rfl | simp)) | (simp [*]; done)), (by first | rfl | (simp; done) | (simp only [← hji20] <;> (first | rfl | simp)) | (simp [*]; done)), (by first | rfl | (simp; done) | (simp [*]; done)), H', ⟨by have := HJ3.out; have := HK2.out; omega⟩, ⟨hb_⟩⟩
          ·rw [if_neg c18] at H
           have c18b0 : decide (((rd_T103 l0 x27_2).f0) ≤ a1) = false := decide_eq_false c18
           clear c18
           have H' := ak_ H
           clear H
           have p413 : 0 ≤ (x27_2 : Int) := of_decide_eq_true (by first | (with_reducible assumption) | assumption)
           have q413 : x27_2 < (l0.length : Int) := of_decide_eq_true (by first | (with_reducible assumption) | assumption)
           obtain ⟨ad413, e413, hx413_0, hx413_1⟩ := at_T103 HR0.out x27_2 p413 q413
           cases e413
           replace hx413_0 := cx_ HB hx413_0
           replace hx413_1 := cx_ HB hx413_1
           replace p413 := eq_true p413
           replace q413 := eq_true q413
           go_wp2_with (first | ((with_reducible refine gate_dst (N := 11) rfl ?_); refine be_ (N := 11) (cs := #[.int .i64 0, .int .i64 0]) (t := 103) ?_; intro gb414 hg w23 hbox hb; have BK414 := ak_ hbox; have GW414 := ak_ ((gs_ hg : w.heap.size ≤ gb414)); have GE414 := ak_ ((gs_ hg : w.heap.size ≤ gb414)); replace HB := ak_ (below_step hb_ hb); clear hb hbox hg; obtain ⟨hcz24_0, hcz24_1, hfz24_0, hfz24_1⟩ := bc2_ BK414.out))
           go_roundg k2
           case measure => have := HJ3.out; have := HK2.out; omega
           case rel => exact ⟨(x8_2), (x9_2), (wrap64 (x27_2 + 1)), (by first | rfl | (simp; done) | (simp [*]; done)), (by first | rfl | (simp; done) | (simp [*]; done)), (by first | rfl | (simp; done) | (simp [*]; done)), H', ⟨by have := HJ3.out; have := HK2.out; omega⟩, ⟨hb_⟩⟩
         ·rw [if_neg c17] at H
          have c17b0 : decide ((wrap64 (a1 - a2)) < ((rd_T103 l0 x27_2).f0)) = false := decide_eq_false c17
          clear c17
          have H' := ak_ H
          clear H
          have p413 : 0 ≤ (x27_2 : Int) := of_decide_eq_true (by first | (with_reducible assumption) | assumption)
          have q413 : x27_2 < (l0.length : Int) := of_decide_eq_true (by first | (with_reducible assumption) | assumption)
          obtain ⟨ad413, e413, hx413_0, hx413_1⟩ := at_T103 HR0.out x27_2 p413 q413
          cases e413
          replace hx413_0 := cx_ HB hx413_0
          replace hx413_1 := cx_ HB hx413_1
          replace p413 := eq_true p413
          replace q413 := eq_true q413
          go_wp2_with (first | ((with_reducible refine gate_dst (N := 11) rfl ?_); refine be_ (N := 11) (cs := #[.int .i64 0, .int .i64 0]) (t := 103) ?_; intro gb414 hg w25 hbox hb; have BK414 := ak_ hbox; have GW414 := ak_ ((gs_ hg : w.heap.size ≤ gb414)); have GE414 := ak_ ((gs_ hg : w.heap.size ≤ gb414)); replace HB := ak_ (below_step hb_ hb); clear hb hbox hg; obtain ⟨hcz26_0, hcz26_1, hfz26_0, hfz26_1⟩ := bc2_ BK414.out))
          go_roundg k2
          case measure => have := HJ3.out; have := HK2.out; omega
          case rel => exact ⟨(x8_2), (x9_2), (wrap64 (x27_2 + 1)), (by first | rfl | (simp; done) | (simp [*]; done)), (by first | rfl | (simp; done) | (simp [*]; done)), (by first | rfl | (simp; done) | (simp [*]; done)), H', ⟨by have := HJ3.out; have := HK2.out; omega⟩, ⟨hb_⟩⟩
        ·rw [if_neg c16] at H
         exact absurd H (by simp)
       ·rw [if_neg c15] at H
        exact absurd H (by simp)
      ·rw [if_neg c14] at H
       have c14b0 : decide (x27_2 < (l0.length : Int)) = false := decide_eq_false c14
       clear c14
       simp only [Option.some.injEq, Prod.mk.injEq] at H
       obtain ⟨rfl, rfl⟩ := H
       go_wp2
       go_ret2
       exact ⟨ew_, hb_⟩

end Go.Proofs.Ytfjjlipfjddaiaa.Bo
