-- PRINTED by print.py (a twelfth state) out of the translation. Not trusted: Lean checks it.
import Derived.Test.YtfjjlipfjddaiaaBo0
import Derived.Test.YtfjjlipfjddaiaaBo9
import Derived.Test.YtfjjlipfjddaiaaBo10
import Derived.Test.YtfjjlipfjddaiaaBo13
import Derived.Test.YtfjjlipfjddaiaaBo17
namespace Go.Proofs.Ytfjjlipfjddaiaa.Bo
open Go.RowKit Go.Proofs.YtfjjlipfjddaiaaW.PrintWords Go.Proofs.YtfjjlipfjddaiaaW.PrintLast Go.Proofs.YtfjjlipfjddaiaaW.PrintMore
attribute [local go_sem] max2_int min2_int max_two min_two max_three min_three max_four min_four   -- for this text's walks alone
set_option linter.unusedVariables false
set_option linter.unusedSimpArgs false

/-! ### impl_DownBound: function 25 -/
def impl_DownBound.j0 : Nat → List (S103) → Int → Int → Bool → List (S96) → Int → Int → Option (Int)
  | 0, _, _, _, _, _, _, _ => none
  | k + 1, x1, x2, x3, x28, x439000, x439001, x439002 => if x28 = true then (some (-1)) else (if x439001 = 2 then (some x3) else (if (x439000.length : Int) = 0 then (some 0) else ((impl_boundsDown.f k x439000 x439001 x439002 x1 x2 x3 0).bind fun bt443 => (if x439001 = 0 then (some (mn x3 bt443.1)) else (some (mn x3 bt443.2))))))
def impl_DownBound.f (k : Nat) (l0_0 : List (S96)) (a0_1 : Int) (a0_2 : Int) (l1 : List (S103)) (a2 : Int) (a3 : Int) : Option (Int) := (impl_SideOk.f k l0_0 a0_1 a0_2).bind fun t439 => (if t439 = true then ((impl_MovesOk.f k l1).bind fun t440 => (if t440 = true then ((impl_isTick.f a2).bind fun t441 => (if t441 = true then ((impl_isCount.f a3).bind fun t442 => (impl_DownBound.j0 k l1 a2 a3 (!t442) l0_0 a0_1 a0_2)) else (impl_DownBound.j0 k l1 a2 a3 true l0_0 a0_1 a0_2))) else (impl_DownBound.j0 k l1 a2 a3 true l0_0 a0_1 a0_2))) else (impl_DownBound.j0 k l1 a2 a3 true l0_0 a0_1 a0_2))
theorem impl_DownBound.mono_l : ∀ k, (∀ y0 y1 y2 y3 y4 y5 y6, LeO (impl_DownBound.j0 k y0 y1 y2 y3 y4 y5 y6) (impl_DownBound.j0 (k + 1) y0 y1 y2 y3 y4 y5 y6))
  | 0 => fun _ _ _ _ _ _ _ r h => by simp [impl_DownBound.j0] at h
  | k + 1 => by
    have ih0 := impl_DownBound.mono_l k
    · intro y0 y1 y2 y3 y4 y5 y6
      unfold impl_DownBound.j0
      repeat' with_reducible first | exact ih0 _ _ _ _ _ _ _ | exact impl_MovesOk.mono _ _ | exact impl_SideOk.mono _ _ _ _ | exact impl_boundsDown.mono _ _ _ _ _ _ _ _ | exact LeO.refl _ | exact LeO.none _ | refine LeO.ite ?_ ?_ | refine LeO.bind ?_ (fun _ => ?_)
theorem impl_DownBound.mono : ∀ a0 a1 a2 a3 a4 a5 k, LeO (impl_DownBound.f k a0 a1 a2 a3 a4 a5) (impl_DownBound.f (k + 1) a0 a1 a2 a3 a4 a5) := by
  intro a0 a1 a2 a3 a4 a5 k
  have ih0 := impl_DownBound.mono_l k
  unfold impl_DownBound.f
  repeat' with_reducible first | exact ih0 _ _ _ _ _ _ _ | exact impl_MovesOk.mono _ _ | exact impl_SideOk.mono _ _ _ _ | exact impl_boundsDown.mono _ _ _ _ _ _ _ _ | exact LeO.refl _ | exact LeO.none _ | refine LeO.ite ?_ ?_ | refine LeO.bind ?_ (fun _ => ?_)
set_option maxHeartbeats 8000000 in
set_option maxRecDepth 100000 in
theorem impl_DownBound.calls (k : Nat) (A0_0 : Option Addr) (c0_0 : Nat) (l0_0 : List (S96)) (a0_1 : Int) (a0_2 : Int) (A1 : Option Addr) (c1 : Nat) (l1 : List (S103)) (a2 : Int) (a3 : Int) (r : Int) (w : World) (hr0_0 : Kd.C k96 w A0_0 l0_0.length l0_0) (hc0_0 : l0_0.length ≤ c0_0) (hr1 : Kd.C k103 w A1 l1.length l1) (hc1 : l1.length ≤ c1) (h : impl_DownBound.f k l0_0 a0_1 a0_2 l1 a2 a3 = some r) :
  Calls Try.prog 25 #[.agg #[.slice A0_0 l0_0.length c0_0, .int .i64 a0_1, .int .i64 a0_2], .slice A1 l1.length c1, .int .i64 a2, .int .i64 a3] w fun e w' => e = .returned (.int .i64 r) ∧ Below w.heap.size w w' := by
 have hu33 := Try.underlying33
 have HR0_0 := ak_ hr0_0
 have HC0_0 := ak_ hc0_0
 clear hr0_0 hc0_0
 have HR1 := ak_ hr1
 have HC1 := ak_ hc1
 clear hr1 hc1
 have HB := ak_ (Below.refl w.heap.size w)
 have H : ((impl_SideOk.f k l0_0 a0_1 a0_2).bind fun t439 => (if t439 = true then ((impl_MovesOk.f k l1).bind fun t440 => (if t440 = true then ((impl_isTick.f a2).bind fun t441 => (if t441 = true then ((impl_isCount.f a3).bind fun t442 => (impl_DownBound.j0 k l1 a2 a3 (!t442) l0_0 a0_1 a0_2)) else (impl_DownBound.j0 k l1 a2 a3 true l0_0 a0_1 a0_2))) else (impl_DownBound.j0 k l1 a2 a3 true l0_0 a0_1 a0_2))) else (impl_DownBound.j0 k l1 a2 a3 true l0_0 a0_1 a0_2))) = some r := h
 clear h
 have HC5 := ak_ H
 clear H
 go_enter Try.func25, Try.ntmps25
 go_upto_region 1 with (first | ((with_reducible refine gate_dst (N := 4) rfl ?_); refine be_ (N := 4) (cs := #[.slice A0_0 l0_0.length c0_0, .int .i64 a0_1, .int .i64 a0_2]) (t := 33) ?_; intro gb438 hg w6 hbox hb; have BK438 := ak_ hbox; have GW438 := ak_ ((gs_ hg : w.heap.size ≤ gb438)); have GE438 := ak_ ((gs_ hg : w.heap.size ≤ gb438)); replace HB := ak_ (below_step hb_ hb); clear hb hbox hg))
 (try simp only [Act.put, List.setIfInBounds_toArray, List.set_cons_zero, List.set_cons_succ])
 go_cut [28] (fun v28 wc => ∃ (kq : Nat) (x28_4 : Bool), v28 = .bool x28_4 ∧ Aside0 (impl_DownBound.j0 kq l1 a2 a3 x28_4 l0_0 a0_1 a0_2 = some r) ∧ Aside0 (kq ≤ k) ∧ Aside0 (wc.heap[gb438]? = some (.cells #[(.slice A0_0 l0_0.length c0_0), .int .i64 a0_1, .int .i64 a0_2] 33 (0, 0))) ∧ Aside0 (Below w.heap.size w wc))
 case first =>
  have H := HC5.out
  clear HC5
  replace H := Option.bind_eq_some_iff.mp H
  obtain ⟨t439, A70, H⟩ := H
  replace H : (if t439 = true then ((impl_MovesOk.f k l1).bind fun t440 => (if t440 = true then ((impl_isTick.f a2).bind fun t441 => (if t441 = true then ((impl_isCount.f a3).bind fun t442 => (impl_DownBound.j0 k l1 a2 a3 (!t442) l0_0 a0_1 a0_2)) else (impl_DownBound.j0 k l1 a2 a3 true l0_0 a0_1 a0_2))) else (impl_DownBound.j0 k l1 a2 a3 true l0_0 a0_1 a0_2))) else (impl_DownBound.j0 k l1 a2 a3 true l0_0 a0_1 a0_2)) = some r := H
  have A7 := ak_ A70
  clear A70
  by_cases c8 : t439 = true
  ·subst c8
   rw [if_pos rfl] at H
   replace H := Option.bind_eq_some_iff.mp H
   obtain ⟨t440, A90, H⟩ := H
   replace H : (if t440 = true then ((impl_isTick.f a2).bind fun t441 => (if t441 = true then ((impl_isCount.f a3).bind fun t442 => (impl_DownBound.j0 k l1 a2 a3 (!t442) l0_0 a0_1 a0_2)) else (impl_DownBound.j0 k l1 a2 a3 true l0_0 a0_1 a0_2))) else (impl_DownBound.j0 k l1 a2 a3 true l0_0 a0_1 a0_2)) = some r := H
   have A9 := ak_ A90
   clear A90
   by_cases c10 : t440 = true
   ·subst c10
    rw [if_pos rfl] at H
    replace H := Option.bind_eq_some_iff.mp H
    obtain ⟨t441, A110, H⟩ := H
    replace H : (if t441 = true then ((impl_isCount.f a3).bind fun t442 => (impl_DownBound.j0 k l1 a2 a3 (!t442) l0_0 a0_1 a0_2)) else (impl_DownBound.j0 k l1 a2 a3 true l0_0 a0_1 a0_2)) = some r := H
    have A11 := ak_ A110
    clear A110
    by_cases c12 : t441 = true
    ·subst c12
     rw [if_pos rfl] at H
     replace H := Option.bind_eq_some_iff.mp H
     obtain ⟨t442, A130, H⟩ := H
     replace H : (impl_DownBound.j0 k l1 a2 a3 (!t442) l0_0 a0_1 a0_2) = some r := H
     have A13 := ak_ A130
     clear A130
     have H' := ak_ H
     clear H
     obtain ⟨hcz14_0, hcz14_1, hcz14_2, hfz14_0, hfz14_1, hfz14_2⟩ := bc3_ BK438.out
     go_wp2_with (first | ((with_reducible refine gate_callee (f := 65) rfl ?_); refine goesL_ (some 12) rfl rfl Try.func65 (by kernel_rfl) rfl #[.agg #[.slice A0_0 l0_0.length c0_0, .int .i64 a0_1, .int .i64 a0_2]] rfl (ma1_ rfl) ?_; (with_reducible refine (impl_SideOk.calls k _ _ l0_0 a0_1 a0_2 true _ ?side1 ?side2 A7.out).mono ?_); (case side1 => exact kc_ HR0_0); (case side2 => exact HC0_0.out); rintro e w15 ⟨rfl, hb⟩; refine ⟨_, rfl, ?_⟩; replace BK438 := ak_ (blk_below (bk_ BK438) hb); replace HB := ak_ (below_step hb_ hb); (try clear hb)) | (go_at_call 66; (with_reducible refine (impl_MovesOk.calls k _ _ l1 true _ ?side1 ?side2 A9.out).mono ?_); (case side1 => exact kc_ HR1); (case side2 => exact HC1.out); rintro e w16 ⟨rfl, hb⟩; replace BK438 := ak_ (blk_below (bk_ BK438) hb); replace HB := ak_ (below_step hb_ hb); (try clear hb)) | (go_at_call 67; (with_reducible refine (impl_isTick.calls a2 true _ A11.out).mono ?_); rintro e w' ⟨rfl, ⟨nd, rfl⟩⟩) | (go_at_call 68; (with_reducible refine (impl_isCount.calls a3 t442 _ A13.out).mono ?_); rintro e w' ⟨rfl, ⟨nd, rfl⟩⟩))
     go_meet
     case rel => exact ⟨_, (!t442), (by first | rfl | (simp; done) | (simp [*]; done)), H', ⟨by first | omega | exact Nat.le_refl _⟩, ⟨by (with_reducible repeat (first | refine kn_ ?_ _ | refine kd_ ?_ | refine ka_ ?_ _)); exact BK438.out⟩, ⟨hb_⟩⟩
    ·replace c12 := Bool.eq_false_iff.mpr c12
     subst c12
     rw [if_neg (show ¬ (false = true) by decide)] at H
     have H' := ak_ H
     clear H
     obtain ⟨hcz17_0, hcz17_1, hcz17_2, hfz17_0, hfz17_1, hfz17_2⟩ := bc3_ BK438.out
     go_wp2_with (first | ((with_reducible refine gate_callee (f := 65) rfl ?_); refine goesL_ (some 12) rfl rfl Try.func65 (by kernel_rfl) rfl #[.agg #[.slice A0_0 l0_0.length c0_0, .int .i64 a0_1, .int .i64 a0_2]] rfl (ma1_ rfl) ?_; (with_reducible refine (impl_SideOk.calls k _ _ l0_0 a0_1 a0_2 true _ ?side1 ?side2 A7.out).mono ?_); (case side1 => exact kc_ HR0_0); (case side2 => exact HC0_0.out); rintro e w18 ⟨rfl, hb⟩; refine ⟨_, rfl, ?_⟩; replace BK438 := ak_ (blk_below (bk_ BK438) hb); replace HB := ak_ (below_step hb_ hb); (try clear hb)) | (go_at_call 66; (with_reducible refine (impl_MovesOk.calls k _ _ l1 true _ ?side1 ?side2 A9.out).mono ?_); (case side1 => exact kc_ HR1); (case side2 => exact HC1.out); rintro e w19 ⟨rfl, hb⟩; replace BK438 := ak_ (blk_below (bk_ BK438) hb); replace HB := ak_ (below_step hb_ hb); (try clear hb)) | (go_at_call 67; (with_reducible refine (impl_isTick.calls a2 false _ A11.out).mono ?_); rintro e w' ⟨rfl, ⟨nd, rfl⟩⟩))
     go_meet
     case rel => exact ⟨_, (true), (by first | rfl | (simp; done) | (simp [*]; done)), H', ⟨by first | omega | exact Nat.le_refl _⟩, ⟨by (with_reducible repeat (first | refine kn_ ?_ _ | refine kd_ ?_ | refine ka_ ?_ _)); exact BK438.out⟩, ⟨hb_⟩⟩
   ·replace c10 := Bool.eq_false_iff.mpr c10
    subst c10
    rw [if_neg (show ¬ (false = true) by decide)] at H
    have H' := ak_ H
    clear H
    obtain ⟨hcz20_0, hcz20_1, hcz20_2, hfz20_0, hfz20_1, hfz20_2⟩ := bc3_ BK438.out
    go_wp2_with (first | ((with_reducible refine gate_callee (f := 65) rfl ?_); refine goesL_ (some 12) rfl rfl Try.func65 (by kernel_rfl) rfl #[.agg #[.slice A0_0 l0_0.length c0_0, .int .i64 a0_1, .int .i64 a0_2]] rfl (ma1_ rfl) ?_; (with_reducible refine (impl_SideOk.calls k _ _ l0_0 a0_1 a0_2 true _ ?side1 ?side2 A7.out).mono ?_); (case side1 => exact kc_ HR0_0); (case side2 => exact HC0_0.out); rintro e w21 ⟨rfl, hb⟩; refine ⟨_, rfl, ?_⟩; replace BK438 := ak_ (blk_below (bk_ BK438) hb); replace HB := ak_ (below_step hb_ hb); (try clear hb)) | (go_at_call 66; (with_reducible refine (impl_MovesOk.calls k _ _ l1 false _ ?side1 ?side2 A9.out).mono ?_); (case side1 => exact kc_ HR1); (case side2 => exact HC1.out); rintro e w22 ⟨rfl, hb⟩; replace BK438 := ak_ (blk_below (bk_ BK438) hb); replace HB := ak_ (below_step hb_ hb); (try clear hb)))
    go_meet
    case rel => exact ⟨_, (true), (by first | rfl | (simp; done) | (simp [*]; done)), H', ⟨by first | omega | exact Nat.le_refl _⟩, ⟨by (with_reducible repeat (first | refine kn_ ?_ _ | refine kd_ ?_ | refine ka_ ?_ _)); exact BK438.out⟩, ⟨hb_⟩⟩
  ·replace c8 := Bool.eq_false_iff.mpr c8
   subst c8
   rw [if_neg (show ¬ (false = true) by decide)] at H
   have H' := ak_ H
   clear H
   obtain ⟨hcz23_0, hcz23_1, hcz23_2, hfz23_0, hfz23_1, hfz23_2⟩ := bc3_ BK438.out
   go_wp2_with (first | ((with_reducible refine gate_callee (f := 65) rfl ?_); refine goesL_ (some 12) rfl rfl Try.func65 (by kernel_rfl) rfl #[.agg #[.slice A0_0 l0_0.length c0_0, .int .i64 a0_1, .int .i64 a0_2]] rfl (ma1_ rfl) ?_; (with_reducible refine (impl_SideOk.calls k _ _ l0_0 a0_1 a0_2 false _ ?side1 ?side2 A7.out).mono ?_); (case side1 => exact kc_ HR0_0); (case side2 => exact HC0_0.out); rintro e w24 ⟨rfl, hb⟩; refine ⟨_, rfl, ?_⟩; replace BK438 := ak_ (blk_below (bk_ BK438) hb); replace HB := ak_ (below_step hb_ hb); (try clear hb)))
   go_meet
   case rel => exact ⟨_, (true), (by first | rfl | (simp; done) | (simp [*]; done)), H', ⟨by first | omega | exact Nat.le_refl _⟩, ⟨by (with_reducible repeat (first | refine kn_ ?_ _ | refine kd_ ?_ | refine ka_ ?_ _)); exact BK438.out⟩, ⟨hb_⟩⟩
 case rest =>
  clear HC5
  try clear c1
  try clear c2
  try clear p2
  try clear c6
  try clear c8
  try clear c10
  try clear c12
  (try clear hcz14_0 hcz14_1 hcz14_2 hfz14_0 hfz14_1 hfz14_2); (try clear hcz17_0 hcz17_1 hcz17_2 hfz17_0 hfz17_1 hfz17_2); (try clear hcz20_0 hcz20_1 hcz20_2 hfz20_0 hfz20_1 hfz20_2); (try clear hcz23_0 hcz23_1 hcz23_2 hfz23_0 hfz23_1 hfz23_2)
  obtain ⟨kq, x28_4, rfl, HA, HJ4, BK438, HB⟩ := hcut
  cases kq with
  | zero => exact absurd HA.out (by simp [impl_DownBound.j0])
  | succ kj4 =>
   have H := HA.out
   clear HA
   simp only [impl_DownBound.j0] at H
   by_cases c25 : x28_4 = true
   ·subst c25
    rw [if_pos rfl] at H
    obtain rfl := Option.some.inj H
    go_wp2
    go_ret
    exact ⟨ew_, hb_⟩
   ·replace c25 := Bool.eq_false_iff.mpr c25
    subst c25
    rw [if_neg (show ¬ (false = true) by decide)] at H
    by_cases c26 : a0_1 = 2
    ·rw [if_pos c26] at H
     have c26b0 : (a0_1 == 2) = true := beq_iff_eq.mpr c26
     have c26b1 : (a0_1 != 2) = false := bne_eq_false_iff_eq.mpr c26
     clear c26
     obtain rfl := Option.some.inj H
     obtain ⟨hcz27_0, hcz27_1, hcz27_2, hfz27_0, hfz27_1, hfz27_2⟩ := bc3_ BK438.out
     go_wp2
     go_ret
     exact ⟨ew_, hb_⟩
    ·rw [if_neg c26] at H
     have c26b0 : (a0_1 == 2) = false := beq_eq_false_iff_ne.mpr c26
     have c26b1 : (a0_1 != 2) = true := bne_iff_ne.mpr c26
     by_cases c28 : (l0_0.length : Int) = 0
     ·rw [if_pos c28] at H
      have c28b0 : ((l0_0.length : Int) == 0) = true := beq_iff_eq.mpr c28
      have c28b1 : ((l0_0.length : Int) != 0) = false := bne_eq_false_iff_eq.mpr c28
      clear c28
      obtain rfl := Option.some.inj H
      obtain ⟨hcz29_0, hcz29_1, hcz29_2, hfz29_0, hfz29_1, hfz29_2⟩ := bc3_ BK438.out
      go_wp2
      go_ret
      exact ⟨ew_, hb_⟩
     ·rw [if_neg c28] at H
      have c28b0 : ((l0_0.length : Int) == 0) = false := beq_eq_false_iff_ne.mpr c28
      have c28b1 : ((l0_0.length : Int) != 0) = true := bne_iff_ne.mpr c28
      have c28b2 : ¬ (l0_0 = []) := fun h_ => c28 (by rw [h_]; rfl)
      replace H := Option.bind_eq_some_iff.mp H
      obtain ⟨⟨t443, t444⟩, A300, H⟩ := H
      replace H : (if a0_1 = 0 then (some (mn a3 t443)) else (some (mn a3 t444))) = some r := H
      have A30 := ak_ A300
      clear A300
      by_cases c31 : a0_1 = 0
      ·rw [if_pos c31] at H
       have c31b0 : (a0_1 == 0) = true := beq_iff_eq.mpr c31
       have c31b1 : (a0_1 != 0) = false := bne_eq_false_iff_eq.mpr c31
       clear c31
       obtain ⟨ji32, hji32⟩ : ∃ j_ : Int, (mn a3 t443) = j_ := ⟨_, rfl⟩
       replace H : (some ji32) = some r := by first | (rw [hji32] at H; exact H) | (simp only [hji32] at H ⊢; exact H)
       (try rw [hji32] at A30)
       have hji32_ : (if t443 < a3 then t443 else a3) = ji32 := hji32
       obtain rfl := Option.some.inj H
       obtain ⟨hcz33_0, hcz33_1, hcz33_2, hfz33_0, hfz33_1, hfz33_2⟩ := bc3_ BK438.out
       go_wp2_with (first | ((with_reducible refine gate_callee (f := 69) rfl ?_); refine goesL_ (some 42) rfl rfl Try.func69 (by kernel_rfl) rfl #[.agg #[.slice A0_0 l0_0.length c0_0, .int .i64 a0_1, .int .i64 a0_2], .slice A1 l1.length c1, .int .i64 a2, .int .i64 a3, .func (.func 72) #[] #[]] rfl (ma5_ rfl rfl rfl rfl rfl) ?_; (with_reducible refine (impl_boundsDown.calls kj4 _ _ l0_0 a0_1 a0_2 _ _ l1 a2 a3 0 t443 t444 _ ?side1 ?side2 ?side3 ?side4 A30.out).mono ?_); (case side1 => exact kc_ HR0_0); (case side2 => exact HC0_0.out); (case side3 => exact kc_ HR1); (case side4 => exact HC1.out); rintro e w34 ⟨rfl, hb⟩; refine ⟨_, rfl, ?_⟩; replace BK438 := ak_ (blk_below (bk_ BK438) hb); replace HB := ak_ (below_step hb_ hb); (try clear hb); obtain ⟨hcz35_0, hcz35_1, hcz35_2, hfz35_0, hfz35_1, hfz35_2⟩ := bc3_ BK438.out))
       go_ret
       exact ⟨by first | rfl | (simp [errW_none, errW_some] <;> rfl) | (simp only [← hji32]; first | rfl | (simp [errW_none, errW_some] <;> rfl)) | (simp [*, errW_none, errW_some] <;> rfl), hb_⟩
      ·rw [if_neg c31] at H
       have c31b0 : (a0_1 == 0) = false := beq_eq_false_iff_ne.mpr c31
       have c31b1 : (a0_1 != 0) = true := bne_iff_ne.mpr c31
       obtain ⟨ji36, hji36⟩ : ∃ j_ : Int, (mn a3 t444) = j_ := ⟨_, rfl⟩
       replace H : (some ji36) = some r := by first | (rw [hji36] at H; exact H) | (simp only [hji36] at H ⊢; exact H)
       (try rw [hji36] at A30)
       have hji36_ : (if t444 < a3 then t444 else a3) = ji36 := hji36
       obtain rfl := Option.some.inj H
       obtain ⟨hcz37_0, hcz37_1, hcz37_2, hfz37_0, hfz37_1, hfz37_2⟩ := bc3_ BK438.out
       go_wp2_with (first | ((with_reducible refine gate_callee (f := 69) rfl ?_); refine goesL_ (some 42) rfl rfl Try.func69 (by kernel_rfl) rfl #[.agg #[.slice A0_0 l0_0.length c0_0, .int .i64 a0_1, .int .i64 a0_2], .slice A1 l1.length c1, .int .i64 a2, .int .i64 a3, .func (.func 72) #[] #[]] rfl (ma5_ rfl rfl rfl rfl rfl) ?_; (with_reducible refine (impl_boundsDown.calls kj4 _ _ l0_0 a0_1 a0_2 _ _ l1 a2 a3 0 t443 t444 _ ?side1 ?side2 ?side3 ?side4 A30.out).mono ?_); (case side1 => exact kc_ HR0_0); (case side2 => exact HC0_0.out); (case side3 => exact kc_ HR1); (case side4 => exact HC1.out); rintro e w38 ⟨rfl, hb⟩; refine ⟨_, rfl, ?_⟩; replace BK438 := ak_ (blk_below (bk_ BK438) hb); replace HB := ak_ (below_step hb_ hb); (try clear hb); obtain ⟨hcz39_0, hcz39_1, hcz39_2, hfz39_0, hfz39_1, hfz39_2⟩ := bc3_ BK438.out))
       go_ret
       exact ⟨by first | rfl | (simp [errW_none, errW_some] <;> rfl) | (simp only [← hji36]; first | rfl | (simp [errW_none, errW_some] <;> rfl)) | (simp [*, errW_none, errW_some] <;> rfl), hb_⟩

end Go.Proofs.Ytfjjlipfjddaiaa.Bo
