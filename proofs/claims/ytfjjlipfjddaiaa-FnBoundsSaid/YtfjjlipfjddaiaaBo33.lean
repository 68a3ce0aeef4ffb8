-- PRINTED by print.py (a twelfth state) out of the translation. Not trusted: Lean checks it.
import Derived.Test.YtfjjlipfjddaiaaBo0
import Derived.Test.YtfjjlipfjddaiaaBo22
import Derived.Test.YtfjjlipfjddaiaaBo25
import Derived.Test.YtfjjlipfjddaiaaBo29
import Derived.Test.YtfjjlipfjddaiaaBo31
import Derived.Test.YtfjjlipfjddaiaaBo32
namespace Go.Proofs.Ytfjjlipfjddaiaa.Bo
open Go.RowKit Go.Proofs.YtfjjlipfjddaiaaW.PrintWords Go.Proofs.YtfjjlipfjddaiaaW.PrintLast Go.Proofs.YtfjjlipfjddaiaaW.PrintMore
attribute [local go_sem] max2_int min2_int max_two min_two max_three min_three max_four min_four   -- for this text's walks alone
set_option linter.unusedVariables false
set_option linter.unusedSimpArgs false

/-! ### spec_LimitWant: function 53 -/
def spec_LimitWant.j0 : Nat → List (S103) → Int → Int → Int → Bool → List (S96) → Int → Int → List (S96) → Int → Int → Int → Int → Option (Int)
  | 0, _, _, _, _, _, _, _, _, _, _, _, _, _ => none
  | k + 1, x1, x2, x3, x4, x33, x518000, x518001, x518002, x518003, x518004, x518005, x518006, x518007 => if x33 = true then (some (-1)) else ((spec_DownBound.f k x518003 x518004 x518005 x1 x2 x3).bind fun t523 => ((spec_UpBound.f k x518000 x518001 x518002 x1 x2 x3).bind fun t524 => ((spec_l06Cut.f x4 t523 t524).bind fun t525 => ((spec_l06Cut.f t525 x518006 x518007).bind fun t526 => (some t526)))))
def spec_LimitWant.f (k : Nat) (l0_0 : List (S96)) (a0_1 : Int) (a0_2 : Int) (l0_3 : List (S96)) (a0_4 : Int) (a0_5 : Int) (a0_6 : Int) (a0_7 : Int) (l1 : List (S103)) (a2 : Int) (a3 : Int) (a4 : Int) : Option (Int) := (spec_BehaveOk.f k l0_0 a0_1 a0_2 l0_3 a0_4 a0_5 a0_6 a0_7).bind fun t518 => (if t518 = true then ((spec_MovesOk.f k l1).bind fun t519 => (if t519 = true then ((spec_l02Tick.f a2).bind fun t520 => (if t520 = true then ((spec_l05Count.f a3).bind fun t521 => (if t521 = true then ((spec_l05Count.f a4).bind fun t522 => (spec_LimitWant.j0 k l1 a2 a3 a4 (!t522) l0_0 a0_1 a0_2 l0_3 a0_4 a0_5 a0_6 a0_7)) else (spec_LimitWant.j0 k l1 a2 a3 a4 true l0_0 a0_1 a0_2 l0_3 a0_4 a0_5 a0_6 a0_7))) else (spec_LimitWant.j0 k l1 a2 a3 a4 true l0_0 a0_1 a0_2 l0_3 a0_4 a0_5 a0_6 a0_7))) else (spec_LimitWant.j0 k l1 a2 a3 a4 true l0_0 a0_1 a0_2 l0_3 a0_4 a0_5 a0_6 a0_7))) else (spec_LimitWant.j0 k l1 a2 a3 a4 true l0_0 a0_1 a0_2 l0_3 a0_4 a0_5 a0_6 a0_7))
theorem spec_LimitWant.mono_l : ∀ k, (∀ y0 y1 y2 y3 y4 y5 y6 y7 y8 y9 y10 y11 y12, LeO (spec_LimitWant.j0 k y0 y1 y2 y3 y4 y5 y6 y7 y8 y9 y10 y11 y12) (spec_LimitWant.j0 (k + 1) y0 y1 y2 y3 y4 y5 y6 y7 y8 y9 y10 y11 y12))
  | 0 => fun _ _ _ _ _ _ _ _ _ _ _ _ _ r h => by simp [spec_LimitWant.j0] at h
  | k + 1 => by
    have ih0 := spec_LimitWant.mono_l k
    · intro y0 y1 y2 y3 y4 y5 y6 y7 y8 y9 y10 y11 y12
      unfold spec_LimitWant.j0
      repeat' with_reducible first | exact ih0 _ _ _ _ _ _ _ _ _ _ _ _ _ | exact spec_BehaveOk.mono _ _ _ _ _ _ _ _ _ | exact spec_DownBound.mono _ _ _ _ _ _ _ | exact spec_MovesOk.mono _ _ | exact spec_UpBound.mono _ _ _ _ _ _ _ | exact LeO.refl _ | exact LeO.none _ | refine LeO.ite ?_ ?_ | refine LeO.bind ?_ (fun _ => ?_)
theorem spec_LimitWant.mono : ∀ a0 a1 a2 a3 a4 a5 a6 a7 a8 a9 a10 a11 k, LeO (spec_LimitWant.f k a0 a1 a2 a3 a4 a5 a6 a7 a8 a9 a10 a11) (spec_LimitWant.f (k + 1) a0 a1 a2 a3 a4 a5 a6 a7 a8 a9 a10 a11) := by
  intro a0 a1 a2 a3 a4 a5 a6 a7 a8 a9 a10 a11 k
  have ih0 := spec_LimitWant.mono_l k
  unfold spec_LimitWant.f
  repeat' with_reducible first | exact ih0 _ _ _ _ _ _ _ _ _ _ _ _ _ | exact spec_BehaveOk.mono _ _ _ _ _ _ _ _ _ | exact spec_DownBound.mono _ _ _ _ _ _ _ | exact spec_MovesOk.mono _ _ | exact spec_UpBound.mono _ _ _ _ _ _ _ | exact LeO.refl _ | exact LeO.none _ | refine LeO.ite ?_ ?_ | refine LeO.bind ?_ (fun _ => ?_)
def spec_LimitWant.T3 : Bool × List (List Nat × List Nat) := (true, [([], []), ([], []), ([1], [1]), ([], []), ([], []), ([], []), ([2, 3, 4, 5], [2, 3, 4, 5]), ([], []), ([7], [7]), ([], []), ([], []), ([], []), ([8, 9, 10, 11, 6], [8, 9, 10, 11]), ([0, 6, 12, 12], [0, 6, 12]), ([], []), ([14], [14]), ([], []), ([16], [16]), ([13, 15, 17, 13], [13, 15, 17]), ([18, 18, 0, 1, 2, 3, 4, 5, 6, 7, 8, 9, 10, 11, 12, 13, 14, 15, 16, 17, 18], [18])])
def spec_LimitWant.B3 : List Nat := [0, 0, 2, 0, 0, 0, 62, 0, 128, 0, 0, 0, 4094, 8191, 0, 16384, 0, 65536, 262143, 524287]
theorem spec_LimitWant.tab3 : rtab .any (opsOf Try.f53 3) = spec_LimitWant.T3 := by kernel_rfl
theorem spec_LimitWant.bits3 : waitsOk spec_LimitWant.T3.2 spec_LimitWant.B3 = true := by kernel_rfl
set_option maxHeartbeats 8000000 in
set_option maxRecDepth 100000 in
theorem spec_LimitWant.calls (k : Nat) (A0_0 : Option Addr) (c0_0 : Nat) (l0_0 : List (S96)) (a0_1 : Int) (a0_2 : Int) (A0_3 : Option Addr) (c0_3 : Nat) (l0_3 : List (S96)) (a0_4 : Int) (a0_5 : Int) (a0_6 : Int) (a0_7 : Int) (A1 : Option Addr) (c1 : Nat) (l1 : List (S103)) (a2 : Int) (a3 : Int) (a4 : Int) (r : Int) (w : World) (hr0_0 : Kd.C k96 w A0_0 l0_0.length l0_0) (hc0_0 : l0_0.length ≤ c0_0) (hr0_3 : Kd.C k96 w A0_3 l0_3.length l0_3) (hc0_3 : l0_3.length ≤ c0_3) (hr1 : Kd.C k103 w A1 l1.length l1) (hc1 : l1.length ≤ c1) (h : spec_LimitWant.f k l0_0 a0_1 a0_2 l0_3 a0_4 a0_5 a0_6 a0_7 l1 a2 a3 a4 = some r) :
  Calls Try.prog 53 #[.agg #[.slice A0_0 l0_0.length c0_0, .int .i64 a0_1, .int .i64 a0_2, .slice A0_3 l0_3.length c0_3, .int .i64 a0_4, .int .i64 a0_5, .int .i64 a0_6, .int .i64 a0_7], .slice A1 l1.length c1, .int .i64 a2, .int .i64 a3, .int .i64 a4] w fun e w' => e = .returned (.int .i64 r) ∧ Below w.heap.size w w' := by
 have hu35 := Try.underlying35
 have hu33 := Try.underlying33
 have HR0_0 := ak_ hr0_0
 have HC0_0 := ak_ hc0_0
 clear hr0_0 hc0_0
 have HR0_3 := ak_ hr0_3
 have HC0_3 := ak_ hc0_3
 clear hr0_3 hc0_3
 have HR1 := ak_ hr1
 have HC1 := ak_ hc1
 clear hr1 hc1
 have HB := ak_ (Below.refl w.heap.size w)
 have H : ((spec_BehaveOk.f k l0_0 a0_1 a0_2 l0_3 a0_4 a0_5 a0_6 a0_7).bind fun t518 => (if t518 = true then ((spec_MovesOk.f k l1).bind fun t519 => (if t519 = true then ((spec_l02Tick.f a2).bind fun t520 => (if t520 = true then ((spec_l05Count.f a3).bind fun t521 => (if t521 = true then ((spec_l05Count.f a4).bind fun t522 => (spec_LimitWant.j0 k l1 a2 a3 a4 (!t522) l0_0 a0_1 a0_2 l0_3 a0_4 a0_5 a0_6 a0_7)) else (spec_LimitWant.j0 k l1 a2 a3 a4 true l0_0 a0_1 a0_2 l0_3 a0_4 a0_5 a0_6 a0_7))) else (spec_LimitWant.j0 k l1 a2 a3 a4 true l0_0 a0_1 a0_2 l0_3 a0_4 a0_5 a0_6 a0_7))) else (spec_LimitWant.j0 k l1 a2 a3 a4 true l0_0 a0_1 a0_2 l0_3 a0_4 a0_5 a0_6 a0_7))) else (spec_LimitWant.j0 k l1 a2 a3 a4 true l0_0 a0_1 a0_2 l0_3 a0_4 a0_5 a0_6 a0_7))) = some r := h
 clear h
 have HC6 := ak_ H
 clear H
 go_enter Try.func53, Try.ntmps53
 go_upto_region 1 with (first | ((with_reducible refine gate_dst (N := 5) rfl ?_); refine be_ (N := 5) (cs := #[.slice A0_0 l0_0.length c0_0, .int .i64 a0_1, .int .i64 a0_2, .slice A0_3 l0_3.length c0_3, .int .i64 a0_4, .int .i64 a0_5, .int .i64 a0_6, .int .i64 a0_7]) (t := 35) ?_; intro gb517 hg w7 hbox hb; have BK517 := ak_ hbox; have GW517 := ak_ ((gs_ hg : w.heap.size ≤ gb517)); have GE517 := ak_ ((gs_ hg : w.heap.size ≤ gb517)); replace HB := ak_ (below_step hb_ hb); clear hb hbox hg))
 (try simp only [Act.put, List.setIfInBounds_toArray, List.set_cons_zero, List.set_cons_succ])
 go_cut [33] (fun v33 wc => ∃ (kq : Nat) (x33_5 : Bool), v33 = .bool x33_5 ∧ Aside0 (spec_LimitWant.j0 kq l1 a2 a3 a4 x33_5 l0_0 a0_1 a0_2 l0_3 a0_4 a0_5 a0_6 a0_7 = some r) ∧ Aside0 (kq ≤ k) ∧ Aside0 (wc.heap[gb517]? = some (.cells #[(.slice A0_0 l0_0.length c0_0), .int .i64 a0_1, .int .i64 a0_2, (.slice A0_3 l0_3.length c0_3), .int .i64 a0_4, .int .i64 a0_5, .int .i64 a0_6, .int .i64 a0_7] 35 (0, 0))) ∧ Aside0 (Below w.heap.size w wc))
 case first =>
  have H := HC6.out
  clear HC6
  replace H := Option.bind_eq_some_iff.mp H
  obtain ⟨t518, A80, H⟩ := H
  replace H : (if t518 = true then ((spec_MovesOk.f k l1).bind fun t519 => (if t519 = true then ((spec_l02Tick.f a2).bind fun t520 => (if t520 = true then ((spec_l05Count.f a3).bind fun t521 => (if t521 = true then ((spec_l05Count.f a4).bind fun t522 => (spec_LimitWant.j0 k l1 a2 a3 a4 (!t522) l0_0 a0_1 a0_2 l0_3 a0_4 a0_5 a0_6 a0_7)) else (spec_LimitWant.j0 k l1 a2 a3 a4 true l0_0 a0_1 a0_2 l0_3 a0_4 a0_5 a0_6 a0_7))) else (spec_LimitWant.j0 k l1 a2 a3 a4 true l0_0 a0_1 a0_2 l0_3 a0_4 a0_5 a0_6 a0_7))) else (spec_LimitWant.j0 k l1 a2 a3 a4 true l0_0 a0_1 a0_2 l0_3 a0_4 a0_5 a0_6 a0_7))) else (spec_LimitWant.j0 k l1 a2 a3 a4 true l0_0 a0_1 a0_2 l0_3 a0_4 a0_5 a0_6 a0_7)) = some r := H
  have A8 := ak_ A80
  clear A80
  by_cases c9 : t518 = true
  ·subst c9
   rw [if_pos rfl] at H
   replace H := Option.bind_eq_some_iff.mp H
   obtain ⟨t519, A100, H⟩ := H
   replace H : (if t519 = true then ((spec_l02Tick.f a2).bind fun t520 => (if t520 = true then ((spec_l05Count.f a3).bind fun t521 => (if t521 = true then ((spec_l05Count.f a4).bind fun t522 => (spec_LimitWant.j0 k l1 a2 a3 a4 (!t522) l0_0 a0_1 a0_2 l0_3 a0_4 a0_5 a0_6 a0_7)) else (spec_LimitWant.j0 k l1 a2 a3 a4 true l0_0 a0_1 a0_2 l0_3 a0_4 a0_5 a0_6 a0_7))) else (spec_LimitWant.j0 k l1 a2 a3 a4 true l0_0 a0_1 a0_2 l0_3 a0_4 a0_5 a0_6 a0_7))) else (spec_LimitWant.j0 k l1 a2 a3 a4 true l0_0 a0_1 a0_2 l0_3 a0_4 a0_5 a0_6 a0_7)) = some r := H
   have A10 := ak_ A100
   clear A100
   by_cases c11 : t519 = true
   ·subst c11
    rw [if_pos rfl] at H
    replace H := Option.bind_eq_some_iff.mp H
    obtain ⟨t520, A120, H⟩ := H
    replace H : (if t520 = true then ((spec_l05Count.f a3).bind fun t521 => (if t521 = true then ((spec_l05Count.f a4).bind fun t522 => (spec_LimitWant.j0 k l1 a2 a3 a4 (!t522) l0_0 a0_1 a0_2 l0_3 a0_4 a0_5 a0_6 a0_7)) else (spec_LimitWant.j0 k l1 a2 a3 a4 true l0_0 a0_1 a0_2 l0_3 a0_4 a0_5 a0_6 a0_7))) else (spec_LimitWant.j0 k l1 a2 a3 a4 true l0_0 a0_1 a0_2 l0_3 a0_4 a0_5 a0_6 a0_7)) = some r := H
    have A12 := ak_ A120
    clear A120
    by_cases c13 : t520 = true
    ·subst c13
     rw [if_pos rfl] at H
     replace H := Option.bind_eq_some_iff.mp H
     obtain ⟨t521, A140, H⟩ := H
     replace H : (if t521 = true then ((spec_l05Count.f a4).bind fun t522 => (spec_LimitWant.j0 k l1 a2 a3 a4 (!t522) l0_0 a0_1 a0_2 l0_3 a0_4 a0_5 a0_6 a0_7)) else (spec_LimitWant.j0 k l1 a2 a3 a4 true l0_0 a0_1 a0_2 l0_3 a0_4 a0_5 a0_6 a0_7)) = some r := H
     have A14 := ak_ A140
     clear A140
     by_cases c15 : t521 = true
     ·subst c15
      rw [if_pos rfl] at H
      replace H := Option.bind_eq_some_iff.mp H
      obtain ⟨t522, A160, H⟩ := H
      replace H : (spec_LimitWant.j0 k l1 a2 a3 a4 (!t522) l0_0 a0_1 a0_2 l0_3 a0_4 a0_5 a0_6 a0_7) = some r := H
      have A16 := ak_ A160
      clear A160
      have H' := ak_ H
      clear H
      obtain ⟨hcz17_0, hcz17_1, hcz17_2, hcz17_3, hcz17_4, hcz17_5, hcz17_6, hcz17_7, hfz17_0, hfz17_1, hfz17_2, hfz17_3, hfz17_4, hfz17_5, hfz17_6, hfz17_7⟩ := bc8_ BK517.out
      go_wp2_with (first | ((with_reducible refine gate_callee (f := 41) rfl ?_); refine goesL_ (some 12) rfl rfl Try.func41 (by kernel_rfl) rfl #[.agg #[.slice A0_0 l0_0.length c0_0, .int .i64 a0_1, .int .i64 a0_2, .slice A0_3 l0_3.length c0_3, .int .i64 a0_4, .int .i64 a0_5, .int .i64 a0_6, .int .i64 a0_7]] rfl (ma1_ rfl) ?_; (with_reducible refine (spec_BehaveOk.calls k _ _ l0_0 a0_1 a0_2 _ _ l0_3 a0_4 a0_5 a0_6 a0_7 true _ ?side1 ?side2 ?side3 ?side4 A8.out).mono ?_); (case side1 => exact kc_ HR0_0); (case side2 => exact HC0_0.out); (case side3 => exact kc_ HR0_3); (case side4 => exact HC0_3.out); rintro e w18 ⟨rfl, hb⟩; refine ⟨_, rfl, ?_⟩; replace BK517 := ak_ (blk_below (bk_ BK517) hb); replace HB := ak_ (below_step hb_ hb); (try clear hb)) | (go_at_call 78; (with_reducible refine (spec_MovesOk.calls k _ _ l1 true _ ?side1 ?side2 A10.out).mono ?_); (case side1 => exact kc_ HR1); (case side2 => exact HC1.out); rintro e w19 ⟨rfl, hb⟩; replace BK517 := ak_ (blk_below (bk_ BK517) hb); replace HB := ak_ (below_step hb_ hb); (try clear hb)) | (go_at_call 79; (with_reducible refine (spec_l02Tick.calls a2 true _ A12.out).mono ?_); rintro e w' ⟨rfl, ⟨nd, rfl⟩⟩) | (go_at_call 89; (with_reducible refine (spec_l05Count.calls a3 true _ A14.out).mono ?_); rintro e w' ⟨rfl, ⟨nd, rfl⟩⟩) | (go_at_call 89; (with_reducible refine (spec_l05Count.calls a4 t522 _ A16.out).mono ?_); rintro e w' ⟨rfl, ⟨nd, rfl⟩⟩))
      go_meet
      case rel => exact ⟨_, (!t522), (by first | rfl | (simp; done) | (simp [*]; done)), H', ⟨by first | omega | exact Nat.le_refl _⟩, ⟨by (with_reducible repeat (first | refine kn_ ?_ _ | refine kd_ ?_ | refine ka_ ?_ _)); exact BK517.out⟩, ⟨hb_⟩⟩
     ·replace c15 := Bool.eq_false_iff.mpr c15
      subst c15
      rw [if_neg (show ¬ (false = true) by decide)] at H
      have H' := ak_ H
      clear H
      obtain ⟨hcz20_0, hcz20_1, hcz20_2, hcz20_3, hcz20_4, hcz20_5, hcz20_6, hcz20_7, hfz20_0, hfz20_1, hfz20_2, hfz20_3, hfz20_4, hfz20_5, hfz20_6, hfz20_7⟩ := bc8_ BK517.out
      go_wp2_with (first | ((with_reducible refine gate_callee (f := 41) rfl ?_); refine goesL_ (some 12) rfl rfl Try.func41 (by kernel_rfl) rfl #[.agg #[.slice A0_0 l0_0.length c0_0, .int .i64 a0_1, .int .i64 a0_2, .slice A0_3 l0_3.length c0_3, .int .i64 a0_4, .int .i64 a0_5, .int .i64 a0_6, .int .i64 a0_7]] rfl (ma1_ rfl) ?_; (with_reducible refine (spec_BehaveOk.calls k _ _ l0_0 a0_1 a0_2 _ _ l0_3 a0_4 a0_5 a0_6 a0_7 true _ ?side1 ?side2 ?side3 ?side4 A8.out).mono ?_); (case side1 => exact kc_ HR0_0); (case side2 => exact HC0_0.out); (case side3 => exact kc_ HR0_3); (case side4 => exact HC0_3.out); rintro e w21 ⟨rfl, hb⟩; refine ⟨_, rfl, ?_⟩; replace BK517 := ak_ (blk_below (bk_ BK517) hb); replace HB := ak_ (below_step hb_ hb); (try clear hb)) | (go_at_call 78; (with_reducible refine (spec_MovesOk.calls k _ _ l1 true _ ?side1 ?side2 A10.out).mono ?_); (case side1 => exact kc_ HR1); (case side2 => exact HC1.out); rintro e w22 ⟨rfl, hb⟩; replace BK517 := ak_ (blk_below (bk_ BK517) hb); replace HB := ak_ (below_step hb_ hb); (try clear hb)) | (go_at_call 79; (with_reducible refine (spec_l02Tick.calls a2 true _ A12.out).mono ?_); rintro e w' ⟨rfl, ⟨nd, rfl⟩⟩) | (go_at_call 89; (with_reducible refine (spec_l05Count.calls a3 false _ A14.out).mono ?_); rintro e w' ⟨rfl, ⟨nd, rfl⟩⟩))
      go_meet
      case rel => exact ⟨_, (true), (by first | rfl | (simp; done) | (simp [*]; done)), H', ⟨by first | omega | exact Nat.le_refl _⟩, ⟨by (with_reducible repeat (first | refine kn_ ?_ _ | refine kd_ ?_ | refine ka_ ?_ _)); exact BK517.out⟩, ⟨hb_⟩⟩
    ·replace c13 := Bool.eq_false_iff.mpr c13
     subst c13
     rw [if_neg (show ¬ (false = true) by decide)] at H
     have H' := ak_ H
     clear H
     obtain ⟨hcz23_0, hcz23_1, hcz23_2, hcz23_3, hcz23_4, hcz23_5, hcz23_6, hcz23_7, hfz23_0, hfz23_1, hfz23_2, hfz23_3, hfz23_4, hfz23_5, hfz23_6, hfz23_7⟩ := bc8_ BK517.out
     go_wp2_with (first | ((with_reducible refine gate_callee (f := 41) rfl ?_); refine goesL_ (some 12) rfl rfl Try.func41 (by kernel_rfl) rfl #[.agg #[.slice A0_0 l0_0.length c0_0, .int .i64 a0_1, .int .i64 a0_2, .slice A0_3 l0_3.length c0_3, .int .i64 a0_4, .int .i64 a0_5, .int .i64 a0_6, .int .i64 a0_7]] rfl (ma1_ rfl) ?_; (with_reducible refine (spec_BehaveOk.calls k _ _ l0_0 a0_1 a0_2 _ _ l0_3 a0_4 a0_5 a0_6 a0_7 true _ ?side1 ?side2 ?side3 ?side4 A8.out).mono ?_); (case side1 => exact kc_ HR0_0); (case side2 => exact HC0_0.out); (case side3 => exact kc_ HR0_3); (case side4 => exact HC0_3.out); rintro e w24 ⟨rfl, hb⟩; refine ⟨_, rfl, ?_⟩; replace BK517 := ak_ (blk_below (bk_ BK517) hb); replace HB := ak_ (below_step hb_ hb); (try clear hb)) | (go_at_call 78; (with_reducible refine (spec_MovesOk.calls k _ _ l1 true _ ?side1 ?side2 A10.out).mono ?_); (case side1 => exact kc_ HR1); (case side2 => exact HC1.out); rintro e w25 ⟨rfl, hb⟩; replace BK517 := ak_ (blk_below (bk_ BK517) hb); replace HB := ak_ (below_step hb_ hb); (try clear hb)) | (go_at_call 79; (with_reducible refine (spec_l02Tick.calls a2 false _ A12.out).mono ?_); rintro e w' ⟨rfl, ⟨nd, rfl⟩⟩))
     go_meet
     case rel => exact ⟨_, (true), (by first | rfl | (simp; done) | (simp [*]; done)), H', ⟨by first | omega | exact Nat.le_refl _⟩, ⟨by (with_reducible repeat (first | refine kn_ ?_ _ | refine kd_ ?_ | refine ka_ ?_ _)); exact BK517.out⟩, ⟨hb_⟩⟩
   ·replace c11 := Bool.eq_false_iff.mpr c11
    subst c11
    rw [if_neg (show ¬ (false = true) by decide)] at H
    have H' := ak_ H
    clear H
    obtain ⟨hcz26_0, hcz26_1, hcz26_2, hcz26_3, hcz26_4, hcz26_5, hcz26_6, hcz26_7, hfz26_0, hfz26_1, hfz26_2, hfz26_3, hfz26_4, hfz26_5, hfz26_6, hfz26_7⟩ := bc8_ BK517.out
    go_wp2_with (first | ((with_reducible refine gate_callee (f := 41) rfl ?_); refine goesL_ (some 12) rfl rfl Try.func41 (by kernel_rfl) rfl #[.agg #[.slice A0_0 l0_0.length c0_0, .int .i64 a0_1, .int .i64 a0_2, .slice A0_3 l0_3.length c0_3, .int .i64 a0_4, .int .i64 a0_5, .int .i64 a0_6, .int .i64 a0_7]] rfl (ma1_ rfl) ?_; (with_reducible refine (spec_BehaveOk.calls k _ _ l0_0 a0_1 a0_2 _ _ l0_3 a0_4 a0_5 a0_6 a0_7 true _ ?side1 ?side2 ?side3 ?side4 A8.out).mono ?_); (case side1 => exact kc_ HR0_0); (case side2 => exact HC0_0.out); (case side3 => exact kc_ HR0_3); (case side4 => exact HC0_3.out); rintro e w27 ⟨rfl, hb⟩; refine ⟨_, rfl, ?_⟩; replace BK517 := ak_ (blk_below (bk_ BK517) hb); replace HB := ak_ (below_step hb_ hb); (try clear hb)) | (go_at_call 78; (with_reducible refine (spec_MovesOk.calls k _ _ l1 false _ ?side1 ?side2 A10.out).mono ?_); (case side1 => exact kc_ HR1); (case side2 => exact HC1.out); rintro e w28 ⟨rfl, hb⟩; replace BK517 := ak_ (blk_below (bk_ BK517) hb); replace HB := ak_ (below_step hb_ hb); (try clear hb)))
    go_meet
    case rel => exact ⟨_, (true), (by first | rfl | (simp; done) | (simp [*]; done)), H', ⟨by first | omega | exact Nat.le_refl _⟩, ⟨by (with_reducible repeat (first | refine kn_ ?_ _ | refine kd_ ?_ | refine ka_ ?_ _)); exact BK517.out⟩, ⟨hb_⟩⟩
  ·replace c9 := Bool.eq_false_iff.mpr c9
   subst c9
   rw [if_neg (show ¬ (false = true) by decide)] at H
   have H' := ak_ H
   clear H
   obtain ⟨hcz29_0, hcz29_1, hcz29_2, hcz29_3, hcz29_4, hcz29_5, hcz29_6, hcz29_7, hfz29_0, hfz29_1, hfz29_2, hfz29_3, hfz29_4, hfz29_5, hfz29_6, hfz29_7⟩ := bc8_ BK517.out
   go_wp2_with (first | ((with_reducible refine gate_callee (f := 41) rfl ?_); refine goesL_ (some 12) rfl rfl Try.func41 (by kernel_rfl) rfl #[.agg #[.slice A0_0 l0_0.length c0_0, .int .i64 a0_1, .int .i64 a0_2, .slice A0_3 l0_3.length c0_3, .int .i64 a0_4, .int .i64 a0_5, .int .i64 a0_6, .int .i64 a0_7]] rfl (ma1_ rfl) ?_; (with_reducible refine (spec_BehaveOk.calls k _ _ l0_0 a0_1 a0_2 _ _ l0_3 a0_4 a0_5 a0_6 a0_7 false _ ?side1 ?side2 ?side3 ?side4 A8.out).mono ?_); (case side1 => exact kc_ HR0_0); (case side2 => exact HC0_0.out); (case side3 => exact kc_ HR0_3); (case side4 => exact HC0_3.out); rintro e w30 ⟨rfl, hb⟩; refine ⟨_, rfl, ?_⟩; replace BK517 := ak_ (blk_below (bk_ BK517) hb); replace HB := ak_ (below_step hb_ hb); (try clear hb)))
   go_meet
   case rel => exact ⟨_, (true), (by first | rfl | (simp; done) | (simp [*]; done)), H', ⟨by first | omega | exact Nat.le_refl _⟩, ⟨by (with_reducible repeat (first | refine kn_ ?_ _ | refine kd_ ?_ | refine ka_ ?_ _)); exact BK517.out⟩, ⟨hb_⟩⟩
 case rest =>
  clear HC6
  try clear c1
  try clear p2
  try clear c4
  try clear c5
  try clear c9
  try clear c11
  try clear c13
  try clear c15
  (try clear hcz17_0 hcz17_1 hcz17_2 hcz17_3 hcz17_4 hcz17_5 hcz17_6 hcz17_7 hfz17_0 hfz17_1 hfz17_2 hfz17_3 hfz17_4 hfz17_5 hfz17_6 hfz17_7); (try clear hcz20_0 hcz20_1 hcz20_2 hcz20_3 hcz20_4 hcz20_5 hcz20_6 hcz20_7 hfz20_0 hfz20_1 hfz20_2 hfz20_3 hfz20_4 hfz20_5 hfz20_6 hfz20_7); (try clear hcz23_0 hcz23_1 hcz23_2 hcz23_3 hcz23_4 hcz23_5 hcz23_6 hcz23_7 hfz23_0 hfz23_1 hfz23_2 hfz23_3 hfz23_4 hfz23_5 hfz23_6 hfz23_7); (try clear hcz26_0 hcz26_1 hcz26_2 hcz26_3 hcz26_4 hcz26_5 hcz26_6 hcz26_7 hfz26_0 hfz26_1 hfz26_2 hfz26_3 hfz26_4 hfz26_5 hfz26_6 hfz26_7); (try clear hcz29_0 hcz29_1 hcz29_2 hcz29_3 hcz29_4 hcz29_5 hcz29_6 hcz29_7 hfz29_0 hfz29_1 hfz29_2 hfz29_3 hfz29_4 hfz29_5 hfz29_6 hfz29_7)
  obtain ⟨kq, x33_5, rfl, HA, HJ5, BK517, HB⟩ := hcut
  cases kq with
  | zero => exact absurd HA.out (by simp [spec_LimitWant.j0])
  | succ kj5 =>
   have H := HA.out
   clear HA
   simp only [spec_LimitWant.j0] at H
   by_cases c31 : x33_5 = true
   ·subst c31
    rw [if_pos rfl] at H
    obtain rfl := Option.some.inj H
    go_wp2
    go_ret
    exact ⟨ew_, hb_⟩
   ·replace c31 := Bool.eq_false_iff.mpr c31
    subst c31
    rw [if_neg (show ¬ (false = true) by decide)] at H
    replace H := Option.bind_eq_some_iff.mp H
    obtain ⟨t523, A320, H⟩ := H
    replace H : ((spec_UpBound.f kj5 l0_0 a0_1 a0_2 l1 a2 a3).bind fun t524 => ((spec_l06Cut.f a4 t523 t524).bind fun t525 => ((spec_l06Cut.f t525 a0_6 a0_7).bind fun t526 => (some t526)))) = some r := H
    have A32 := ak_ A320
    clear A320
    replace H := Option.bind_eq_some_iff.mp H
    obtain ⟨t524, A330, H⟩ := H
    replace H : ((spec_l06Cut.f a4 t523 t524).bind fun t525 => ((spec_l06Cut.f t525 a0_6 a0_7).bind fun t526 => (some t526))) = some r := H
    have A33 := ak_ A330
    clear A330
    replace H := Option.bind_eq_some_iff.mp H
    obtain ⟨t525, A340, H⟩ := H
    replace H : ((spec_l06Cut.f t525 a0_6 a0_7).bind fun t526 => (some t526)) = some r := H
    have A34 := ak_ A340
    clear A340
    replace H := Option.bind_eq_some_iff.mp H
    obtain ⟨t526, A350, H⟩ := H
    replace H : (some t526) = some r := H
    have A35 := ak_ A350
    clear A350
    obtain rfl := Option.some.inj H
    try go_wp2
    replace BK517 := ak_ (blk_drew BK517.out)
    replace HB := ak_ (below_drew1 HB.out)
    refine start_ (n := 20) (S := fun w' => w'.cell? ⟨gb517, 0, none⟩ = some (.slice A0_0 l0_0.length c0_0) ∧ w'.cell? ⟨gb517, 1, none⟩ = some (.int .i64 a0_1) ∧ w'.cell? ⟨gb517, 2, none⟩ = some (.int .i64 a0_2) ∧ w'.cell? ⟨gb517, 3, none⟩ = some (.slice A0_3 l0_3.length c0_3) ∧ w'.cell? ⟨gb517, 4, none⟩ = some (.int .i64 a0_4) ∧ w'.cell? ⟨gb517, 5, none⟩ = some (.int .i64 a0_5) ∧ w'.cell? ⟨gb517, 6, none⟩ = some (.int .i64 a0_6) ∧ w'.cell? ⟨gb517, 7, none⟩ = some (.int .i64 a0_7)) (ds := []) #[false, false, false, false, false, false, false, false, false, false, false, false, false, false, false, false, false, false, false, false] (by kernel_rfl) rfl rfl ⟨(blk_cell BK517.out 0).trans rfl, (blk_cell BK517.out 1).trans rfl, (blk_cell BK517.out 2).trans rfl, (blk_cell BK517.out 3).trans rfl, (blk_cell BK517.out 4).trans rfl, (blk_cell BK517.out 5).trans rfl, (blk_cell BK517.out 6).trans rfl, (blk_cell BK517.out 7).trans rfl⟩ (fun hHeld => ?_); refine with_tabW spec_LimitWant.tab3 spec_LimitWant.bits3 (fun HT_ HW_ => ?_)
    generalize wc.drew = w36 at BK517 HB hHeld ⊢
    refine p1_ (i := 0) (N := some 34) #[true, false, false, false, false, false, false, false, false, false, false, false, false, false, false, false, false, false, false, false] (any_of HT_.out (by kernel_rfl)) ?_
    refine p1_ (i := 1) (N := some 35) #[true, true, false, false, false, false, false, false, false, false, false, false, false, false, false, false, false, false, false, false] (any_of HT_.out (by kernel_rfl)) ?_
    refine p1_ (i := 3) (N := some 37) #[true, true, false, true, false, false, false, false, false, false, false, false, false, false, false, false, false, false, false, false] (any_of HT_.out (by kernel_rfl)) ?_
    refine p1_ (i := 4) (N := some 38) #[true, true, false, true, true, false, false, false, false, false, false, false, false, false, false, false, false, false, false, false] (any_of HT_.out (by kernel_rfl)) ?_
    refine p1_ (i := 5) (N := some 39) #[true, true, false, true, true, true, false, false, false, false, false, false, false, false, false, false, false, false, false, false] (any_of HT_.out (by kernel_rfl)) ?_
    refine p1_ (i := 7) (N := some 41) #[true, true, false, true, true, true, false, true, false, false, false, false, false, false, false, false, false, false, false, false] (any_of HT_.out (by kernel_rfl)) ?_
    refine p1_ (i := 9) (N := some 43) #[true, true, false, true, true, true, false, true, false, true, false, false, false, false, false, false, false, false, false, false] (any_of HT_.out (by kernel_rfl)) ?_
    refine p1_ (i := 10) (N := some 44) #[true, true, false, true, true, true, false, true, false, true, true, false, false, false, false, false, false, false, false, false] (any_of HT_.out (by kernel_rfl)) ?_
    refine p1_ (i := 11) (N := some 45) #[true, true, false, true, true, true, false, true, false, true, true, true, false, false, false, false, false, false, false, false] (any_of HT_.out (by kernel_rfl)) ?_
    refine p1_ (i := 14) (N := some 48) #[true, true, false, true, true, true, false, true, false, true, true, true, false, false, true, false, false, false, false, false] (any_of HT_.out (by kernel_rfl)) ?_
    refine p1_ (i := 16) (N := some 50) #[true, true, false, true, true, true, false, true, false, true, true, true, false, false, true, false, true, false, false, false] (any_of HT_.out (by kernel_rfl)) ?_
    refine take_ (i := 2) (N := some 36) (v := ?_) (a' := ?_) #[true, true, true, true, true, true, false, true, false, true, true, true, false, false, true, false, true, false, false, false] rfl rfl (take_ofW HT_.out HW_.out (by kernel_rfl)) (fun _ _ _ h => h) (Or.inl ⟨by rfl, ?_⟩) hHeld ?_ ?_; rotate_left; (rintro w' ⟨s0, s1, s2, s3, s4, s5, s6, s7⟩; go_simp; with_reducible rfl); rotate_left; (simp only [Act.put, List.setIfInBounds_toArray, List.set_cons_zero, List.set_cons_succ, i64_w, i32_w]; rfl)
    refine take_ (i := 8) (N := some 42) (v := ?_) (a' := ?_) #[true, true, true, true, true, true, false, true, true, true, true, true, false, false, true, false, true, false, false, false] rfl rfl (take_ofW HT_.out HW_.out (by kernel_rfl)) (fun _ _ _ h => h) (Or.inl ⟨by rfl, ?_⟩) hHeld ?_ ?_; rotate_left; (rintro w' ⟨s0, s1, s2, s3, s4, s5, s6, s7⟩; go_simp; with_reducible rfl); rotate_left; (simp only [Act.put, List.setIfInBounds_toArray, List.set_cons_zero, List.set_cons_succ, i64_w, i32_w]; rfl)
    refine take_ (i := 15) (N := some 49) (v := ?_) (a' := ?_) #[true, true, true, true, true, true, false, true, true, true, true, true, false, false, true, true, true, false, false, false] rfl rfl (take_ofW HT_.out HW_.out (by kernel_rfl)) (fun _ _ _ h => h) (Or.inl ⟨by rfl, ?_⟩) hHeld ?_ ?_; rotate_left; (rintro w' ⟨s0, s1, s2, s3, s4, s5, s6, s7⟩; go_simp; with_reducible rfl); rotate_left; (simp only [Act.put, List.setIfInBounds_toArray, List.set_cons_zero, List.set_cons_succ, i64_w, i32_w]; rfl)
    refine take_ (i := 17) (N := some 51) (v := ?_) (a' := ?_) #[true, true, true, true, true, true, false, true, true, true, true, true, false, false, true, true, true, true, false, false] rfl rfl (take_ofW HT_.out HW_.out (by kernel_rfl)) (fun _ _ _ h => h) (Or.inl ⟨by rfl, ?_⟩) hHeld ?_ ?_; rotate_left; (rintro w' ⟨s0, s1, s2, s3, s4, s5, s6, s7⟩; go_simp; with_reducible rfl); rotate_left; (simp only [Act.put, List.setIfInBounds_toArray, List.set_cons_zero, List.set_cons_succ, i64_w, i32_w]; rfl)
    refine one_ (i := 6) (N := some 40) #[true, true, true, true, true, true, true, true, true, true, true, true, false, false, true, true, true, true, false, false] rfl rfl (one_of HT_.out (by kernel_rfl)) (by decide) (fun K hK => ?_)
    refine goes_ Try.func27 (by kernel_rfl) rfl #[.agg #[.slice A0_3 l0_3.length c0_3, .int .i64 a0_4, .int .i64 a0_5], .slice A1 l1.length c1, .int .i64 a2, .int .i64 a3] (by rfl) rfl rfl (ma4_ rfl rfl rfl rfl) ?_
    with_reducible refine (spec_DownBound.calls kj5 _ _ l0_3 a0_4 a0_5 _ _ l1 a2 a3 t523 _ ?side1 ?side2 ?side3 ?side4 A32.out).mono ?_
    (case side1 => exact kc_ HR0_3)
    (case side2 => exact HC0_3.out)
    (case side3 => exact kc_ HR1)
    (case side4 => exact HC1.out)
    rintro e w37 ⟨rfl, hb⟩
    refine ⟨_, rfl, ?_⟩
    replace BK517 := ak_ (blk_below (bk_ BK517) hb)
    replace HB := ak_ (below_step hb_ hb)
    (try clear hb)
    (try clear hb2)
    (try clear hk)
    (try clear hi)
    refine hK.out _ _ ⟨(blk_cell BK517.out 0).trans rfl, (blk_cell BK517.out 1).trans rfl, (blk_cell BK517.out 2).trans rfl, (blk_cell BK517.out 3).trans rfl, (blk_cell BK517.out 4).trans rfl, (blk_cell BK517.out 5).trans rfl, (blk_cell BK517.out 6).trans rfl, (blk_cell BK517.out 7).trans rfl⟩ (fun hHeld => ?_)
    clear hK K
    refine norm_ (a' := ?_) ?_ ?_
    rotate_left
    ·show Act.put _ (some 40) _ = _
     simp only [Act.put, List.setIfInBounds_toArray, List.set_cons_zero, List.set_cons_succ, i64_w, i32_w]
     rfl
    refine one_ (i := 12) (N := some 46) #[true, true, true, true, true, true, true, true, true, true, true, true, true, false, true, true, true, true, false, false] rfl rfl (one_of HT_.out (by kernel_rfl)) (by decide) (fun K hK => ?_)
    refine goes_ Try.func26 (by kernel_rfl) rfl #[.agg #[.slice A0_0 l0_0.length c0_0, .int .i64 a0_1, .int .i64 a0_2], .slice A1 l1.length c1, .int .i64 a2, .int .i64 a3] (by rfl) rfl rfl (ma4_ rfl rfl rfl rfl) ?_
    with_reducible refine (spec_UpBound.calls kj5 _ _ l0_0 a0_1 a0_2 _ _ l1 a2 a3 t524 _ ?side1 ?side2 ?side3 ?side4 A33.out).mono ?_
    (case side1 => exact kc_ HR0_0)
    (case side2 => exact HC0_0.out)
    (case side3 => exact kc_ HR1)
    (case side4 => exact HC1.out)
    rintro e w38 ⟨rfl, hb⟩
    refine ⟨_, rfl, ?_⟩
    replace BK517 := ak_ (blk_below (bk_ BK517) hb)
    replace HB := ak_ (below_step hb_ hb)
    (try clear hb)
    (try clear hb2)
    (try clear hk)
    (try clear hi)
    refine hK.out _ _ ⟨(blk_cell BK517.out 0).trans rfl, (blk_cell BK517.out 1).trans rfl, (blk_cell BK517.out 2).trans rfl, (blk_cell BK517.out 3).trans rfl, (blk_cell BK517.out 4).trans rfl, (blk_cell BK517.out 5).trans rfl, (blk_cell BK517.out 6).trans rfl, (blk_cell BK517.out 7).trans rfl⟩ (fun hHeld => ?_)
    clear hK K
    refine norm_ (a' := ?_) ?_ ?_
    rotate_left
    ·show Act.put _ (some 46) _ = _
     simp only [Act.put, List.setIfInBounds_toArray, List.set_cons_zero, List.set_cons_succ, i64_w, i32_w]
     rfl
    refine one_ (i := 13) (N := some 47) #[true, true, true, true, true, true, true, true, true, true, true, true, true, true, true, true, true, true, false, false] rfl rfl (one_of HT_.out (by kernel_rfl)) (by decide) (fun K hK => ?_)
    refine goes_ Try.func93 (by kernel_rfl) rfl #[.int .i64 a4, .int .i64 t523, .int .i64 t524] (by rfl) rfl rfl (ma3_ rfl rfl rfl) ?_
    with_reducible refine (spec_l06Cut.calls a4 t523 t524 t525 _ A34.out).mono ?_
    rintro e w' ⟨rfl, ⟨nd, rfl⟩⟩
    refine ⟨_, rfl, ?_⟩
    refine hK.out _ _ ⟨(blk_cell BK517.out 0).trans rfl, (blk_cell BK517.out 1).trans rfl, (blk_cell BK517.out 2).trans rfl, (blk_cell BK517.out 3).trans rfl, (blk_cell BK517.out 4).trans rfl, (blk_cell BK517.out 5).trans rfl, (blk_cell BK517.out 6).trans rfl, (blk_cell BK517.out 7).trans rfl⟩ (fun hHeld => ?_)
    clear hK K
    refine norm_ (a' := ?_) ?_ ?_
    rotate_left
    ·show Act.put _ (some 47) _ = _
     simp only [Act.put, List.setIfInBounds_toArray, List.set_cons_zero, List.set_cons_succ, i64_w, i32_w]
     rfl
    refine one_ (i := 18) (N := some 52) #[true, true, true, true, true, true, true, true, true, true, true, true, true, true, true, true, true, true, true, false] rfl rfl (one_of HT_.out (by kernel_rfl)) (by decide) (fun K hK => ?_)
    refine goes_ Try.func93 (by kernel_rfl) rfl #[.int .i64 t525, .int .i64 a0_6, .int .i64 a0_7] (by rfl) rfl rfl (ma3_ rfl rfl rfl) ?_
    with_reducible refine (spec_l06Cut.calls t525 a0_6 a0_7 t526 _ A35.out).mono ?_
    rintro e w' ⟨rfl, ⟨nd, rfl⟩⟩
    refine ⟨_, rfl, ?_⟩
    refine hK.out _ _ ⟨(blk_cell BK517.out 0).trans rfl, (blk_cell BK517.out 1).trans rfl, (blk_cell BK517.out 2).trans rfl, (blk_cell BK517.out 3).trans rfl, (blk_cell BK517.out 4).trans rfl, (blk_cell BK517.out 5).trans rfl, (blk_cell BK517.out 6).trans rfl, (blk_cell BK517.out 7).trans rfl⟩ (fun hHeld => ?_)
    clear hK K
    refine norm_ (a' := ?_) ?_ ?_
    rotate_left
    ·show Act.put _ (some 52) _ = _
     simp only [Act.put, List.setIfInBounds_toArray, List.set_cons_zero, List.set_cons_succ, i64_w, i32_w]
     rfl
    refine p1_ (i := 19) (N := some 10) #[true, true, true, true, true, true, true, true, true, true, true, true, true, true, true, true, true, true, true, true] (any_of HT_.out (by kernel_rfl)) ?_
    refine done_ (done_of HT_.out (by kernel_rfl)) ?_
    try go_wp2
    go_ret
    exact ⟨ew_, hb_⟩

end Go.Proofs.Ytfjjlipfjddaiaa.Bo
