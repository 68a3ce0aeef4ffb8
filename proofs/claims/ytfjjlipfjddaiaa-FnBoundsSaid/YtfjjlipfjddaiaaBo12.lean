-- PRINTED by print.py (a twelfth state) out of the translation. Not trusted: Lean checks it.
import Derived.Test.YtfjjlipfjddaiaaBo0
import Derived.Test.YtfjjlipfjddaiaaBo10
import Derived.Test.YtfjjlipfjddaiaaBo11
namespace Go.Proofs.Ytfjjlipfjddaiaa.Bo
open Go.RowKit Go.Proofs.YtfjjlipfjddaiaaW.PrintWords Go.Proofs.YtfjjlipfjddaiaaW.PrintLast Go.Proofs.YtfjjlipfjddaiaaW.PrintMore
attribute [local go_sem] max2_int min2_int max_two min_two max_three min_three max_four min_four   -- for this text's walks alone
set_option linter.unusedVariables false
set_option linter.unusedSimpArgs false

/-! ### impl_Steady: function 48 -/
mutual
def impl_Steady.j0 : Nat → List (S109) → Int → Int → Int → Bool → List (S96) → Int → Int → List (S96) → Int → Int → Int → Int → Option (Int)
  | 0, _, _, _, _, _, _, _, _, _, _, _, _, _ => none
  | k + 1, x1, x2, x3, x4, x37, x398000, x398001, x398002, x398003, x398004, x398005, x398006, x398007 => if x37 = true then (some (-1)) else (impl_Steady.l0 k x2 x3 x4 x4 x1 (x1.length : Int) 0 x398000 x398001 x398002 x398003 x398004 x398005 x398006 x398007)
def impl_Steady.l0 : Nat → Int → Int → Int → Int → List (S109) → Int → Int → List (S96) → Int → Int → List (S96) → Int → Int → Int → Int → Option (Int)
  | 0, _, _, _, _, _, _, _, _, _, _, _, _, _, _, _ => none
  | k + 1, x2, x3, x11, x12, x40, x41, x42, x398000, x398001, x398002, x398003, x398004, x398005, x398006, x398007 => if x42 < x41 then (if 0 ≤ x42 then (if x42 < (x40.length : Int) then (if ((rd_T109 x40 x42).f0) > x2 then (impl_Steady.l0 k x2 x3 x11 x12 x40 x41 (wrap64 (x42 + 1)) x398000 x398001 x398002 x398003 x398004 x398005 x398006 x398007) else (if ((rd_T109 x40 x42).f0) > (wrap64 (x2 - x398002)) then (if ((rd_T109 x40 x42).f0) > (wrap64 (x2 - x398005)) then (impl_Steady.l0 k x2 x3 (mn x11 ((rd_T109 x40 x42).f1)) (mx x12 ((rd_T109 x40 x42).f1)) x40 x41 (wrap64 (x42 + 1)) x398000 x398001 x398002 x398003 x398004 x398005 x398006 x398007) else (impl_Steady.l0 k x2 x3 (mn x11 ((rd_T109 x40 x42).f1)) x12 x40 x41 (wrap64 (x42 + 1)) x398000 x398001 x398002 x398003 x398004 x398005 x398006 x398007)) else (if ((rd_T109 x40 x42).f0) > (wrap64 (x2 - x398005)) then (impl_Steady.l0 k x2 x3 x11 (mx x12 ((rd_T109 x40 x42).f1)) x40 x41 (wrap64 (x42 + 1)) x398000 x398001 x398002 x398003 x398004 x398005 x398006 x398007) else (impl_Steady.l0 k x2 x3 x11 x12 x40 x41 (wrap64 (x42 + 1)) x398000 x398001 x398002 x398003 x398004 x398005 x398006 x398007)))) else (none)) else (none)) else (if x3 < x11 then (some x11) else (if x3 > x12 then (some x12) else (some x3)))
end
def impl_Steady.f (k : Nat) (l0_0 : List (S96)) (a0_1 : Int) (a0_2 : Int) (l0_3 : List (S96)) (a0_4 : Int) (a0_5 : Int) (a0_6 : Int) (a0_7 : Int) (l1 : List (S109)) (a2 : Int) (a3 : Int) (a4 : Int) : Option (Int) := (impl_BehaveOk.f k l0_0 a0_1 a0_2 l0_3 a0_4 a0_5 a0_6 a0_7).bind fun t398 => (if t398 = true then ((impl_NotesOk.f k l1).bind fun t399 => (if t399 = true then ((impl_isTick.f a2).bind fun t400 => (if t400 = true then ((impl_isCount.f a3).bind fun t401 => (if t401 = true then ((impl_isCount.f a4).bind fun t402 => (impl_Steady.j0 k l1 a2 a3 a4 (!t402) l0_0 a0_1 a0_2 l0_3 a0_4 a0_5 a0_6 a0_7)) else (impl_Steady.j0 k l1 a2 a3 a4 true l0_0 a0_1 a0_2 l0_3 a0_4 a0_5 a0_6 a0_7))) else (impl_Steady.j0 k l1 a2 a3 a4 true l0_0 a0_1 a0_2 l0_3 a0_4 a0_5 a0_6 a0_7))) else (impl_Steady.j0 k l1 a2 a3 a4 true l0_0 a0_1 a0_2 l0_3 a0_4 a0_5 a0_6 a0_7))) else (impl_Steady.j0 k l1 a2 a3 a4 true l0_0 a0_1 a0_2 l0_3 a0_4 a0_5 a0_6 a0_7))
theorem impl_Steady.mono_l : ∀ k, (∀ y0 y1 y2 y3 y4 y5 y6 y7 y8 y9 y10 y11 y12, LeO (impl_Steady.j0 k y0 y1 y2 y3 y4 y5 y6 y7 y8 y9 y10 y11 y12) (impl_Steady.j0 (k + 1) y0 y1 y2 y3 y4 y5 y6 y7 y8 y9 y10 y11 y12)) ∧ (∀ y0 y1 y2 y3 y4 y5 y6 y7 y8 y9 y10 y11 y12 y13 y14, LeO (impl_Steady.l0 k y0 y1 y2 y3 y4 y5 y6 y7 y8 y9 y10 y11 y12 y13 y14) (impl_Steady.l0 (k + 1) y0 y1 y2 y3 y4 y5 y6 y7 y8 y9 y10 y11 y12 y13 y14))
  | 0 => ⟨fun _ _ _ _ _ _ _ _ _ _ _ _ _ r h => by simp [impl_Steady.j0] at h, fun _ _ _ _ _ _ _ _ _ _ _ _ _ _ _ r h => by simp [impl_Steady.l0] at h⟩
  | k + 1 => by
    obtain ⟨ih0, ih1⟩ := impl_Steady.mono_l k
    refine ⟨?_, ?_⟩
    · intro y0 y1 y2 y3 y4 y5 y6 y7 y8 y9 y10 y11 y12
      unfold impl_Steady.j0
      repeat' with_reducible first | exact ih0 _ _ _ _ _ _ _ _ _ _ _ _ _ | exact ih1 _ _ _ _ _ _ _ _ _ _ _ _ _ _ _ | exact impl_BehaveOk.mono _ _ _ _ _ _ _ _ _ | exact impl_NotesOk.mono _ _ | exact LeO.refl _ | exact LeO.none _ | refine LeO.ite ?_ ?_ | refine LeO.bind ?_ (fun _ => ?_)
    · intro y0 y1 y2 y3 y4 y5 y6 y7 y8 y9 y10 y11 y12 y13 y14
      unfold impl_Steady.l0
      repeat' with_reducible first | exact ih0 _ _ _ _ _ _ _ _ _ _ _ _ _ | exact ih1 _ _ _ _ _ _ _ _ _ _ _ _ _ _ _ | exact impl_BehaveOk.mono _ _ _ _ _ _ _ _ _ | exact impl_NotesOk.mono _ _ | exact LeO.refl _ | exact LeO.none _ | refine LeO.ite ?_ ?_ | refine LeO.bind ?_ (fun _ => ?_)
theorem impl_Steady.mono : ∀ a0 a1 a2 a3 a4 a5 a6 a7 a8 a9 a10 a11 k, LeO (impl_Steady.f k a0 a1 a2 a3 a4 a5 a6 a7 a8 a9 a10 a11) (impl_Steady.f (k + 1) a0 a1 a2 a3 a4 a5 a6 a7 a8 a9 a10 a11) := by
  intro a0 a1 a2 a3 a4 a5 a6 a7 a8 a9 a10 a11 k
  obtain ⟨ih0, ih1⟩ := impl_Steady.mono_l k
  unfold impl_Steady.f
  repeat' with_reducible first | exact ih0 _ _ _ _ _ _ _ _ _ _ _ _ _ | exact ih1 _ _ _ _ _ _ _ _ _ _ _ _ _ _ _ | exact impl_BehaveOk.mono _ _ _ _ _ _ _ _ _ | exact impl_NotesOk.mono _ _ | exact LeO.refl _ | exact LeO.none _ | refine LeO.ite ?_ ?_ | refine LeO.bind ?_ (fun _ => ?_)
set_option maxHeartbeats 8000000 in
set_option maxRecDepth 100000 in
theorem impl_Steady.calls (k : Nat) (A0_0 : Option Addr) (c0_0 : Nat) (l0_0 : List (S96)) (a0_1 : Int) (a0_2 : Int) (A0_3 : Option Addr) (c0_3 : Nat) (l0_3 : List (S96)) (a0_4 : Int) (a0_5 : Int) (a0_6 : Int) (a0_7 : Int) (A1 : Option Addr) (c1 : Nat) (l1 : List (S109)) (a2 : Int) (a3 : Int) (a4 : Int) (r : Int) (w : World) (hr0_0 : Kd.C k96 w A0_0 l0_0.length l0_0) (hc0_0 : l0_0.length ≤ c0_0) (hr0_3 : Kd.C k96 w A0_3 l0_3.length l0_3) (hc0_3 : l0_3.length ≤ c0_3) (hr1 : Kd.C k109 w A1 l1.length l1) (hc1 : l1.length ≤ c1) (h : impl_Steady.f k l0_0 a0_1 a0_2 l0_3 a0_4 a0_5 a0_6 a0_7 l1 a2 a3 a4 = some r) :
  Calls Try.prog 48 #[.agg #[.slice A0_0 l0_0.length c0_0, .int .i64 a0_1, .int .i64 a0_2, .slice A0_3 l0_3.length c0_3, .int .i64 a0_4, .int .i64 a0_5, .int .i64 a0_6, .int .i64 a0_7], .slice A1 l1.length c1, .int .i64 a2, .int .i64 a3, .int .i64 a4] w fun e w' => e = .returned (.int .i64 r) ∧ Below w.heap.size w w' := by
 have hu35 := Try.underlying35
 have hu109 := Try.underlying109
 have HR0_0 := ak_ hr0_0
 have HC0_0 := ak_ hc0_0
 clear hr0_0 hc0_0
 have HR0_3 := ak_ hr0_3
 have HC0_3 := ak_ hc0_3
 clear hr0_3 hc0_3
 have HR1 := ak_ hr1
 have HC1 := ak_ hc1
 clear hr1 hc1
 have HB := ak_ (Below.refl w.heap.size w)
 have H : ((impl_BehaveOk.f k l0_0 a0_1 a0_2 l0_3 a0_4 a0_5 a0_6 a0_7).bind fun t398 => (if t398 = true then ((impl_NotesOk.f k l1).bind fun t399 => (if t399 = true then ((impl_isTick.f a2).bind fun t400 => (if t400 = true then ((impl_isCount.f a3).bind fun t401 => (if t401 = true then ((impl_isCount.f a4).bind fun t402 => (impl_Steady.j0 k l1 a2 a3 a4 (!t402) l0_0 a0_1 a0_2 l0_3 a0_4 a0_5 a0_6 a0_7)) else (impl_Steady.j0 k l1 a2 a3 a4 true l0_0 a0_1 a0_2 l0_3 a0_4 a0_5 a0_6 a0_7))) else (impl_Steady.j0 k l1 a2 a3 a4 true l0_0 a0_1 a0_2 l0_3 a0_4 a0_5 a0_6 a0_7))) else (impl_Steady.j0 k l1 a2 a3 a4 true l0_0 a0_1 a0_2 l0_3 a0_4 a0_5 a0_6 a0_7))) else (impl_Steady.j0 k l1 a2 a3 a4 true l0_0 a0_1 a0_2 l0_3 a0_4 a0_5 a0_6 a0_7))) = some r := h
 clear h
 have HC6 := ak_ H
 clear H
 go_enter Try.func48, Try.ntmps48
 go_upto_region 1 with (first | ((with_reducible refine gate_dst (N := 5) rfl ?_); refine be_ (N := 5) (cs := #[.slice A0_0 l0_0.length c0_0, .int .i64 a0_1, .int .i64 a0_2, .slice A0_3 l0_3.length c0_3, .int .i64 a0_4, .int .i64 a0_5, .int .i64 a0_6, .int .i64 a0_7]) (t := 35) ?_; intro gb397 hg w7 hbox hb; have BK397 := ak_ hbox; have GW397 := ak_ ((gs_ hg : w.heap.size ≤ gb397)); have GE397 := ak_ ((gs_ hg : w.heap.size ≤ gb397)); replace HB := ak_ (below_step hb_ hb); clear hb hbox hg))
 (try simp only [Act.put, List.setIfInBounds_toArray, List.set_cons_zero, List.set_cons_succ])
 go_cut [37] (fun v37 wc => ∃ (kq : Nat) (x37_5 : Bool), v37 = .bool x37_5 ∧ Aside0 (impl_Steady.j0 kq l1 a2 a3 a4 x37_5 l0_0 a0_1 a0_2 l0_3 a0_4 a0_5 a0_6 a0_7 = some r) ∧ Aside0 (kq ≤ k) ∧ Aside0 (wc.heap[gb397]? = some (.cells #[(.slice A0_0 l0_0.length c0_0), .int .i64 a0_1, .int .i64 a0_2, (.slice A0_3 l0_3.length c0_3), .int .i64 a0_4, .int .i64 a0_5, .int .i64 a0_6, .int .i64 a0_7] 35 (0, 0))) ∧ Aside0 (Below w.heap.size w wc))
 case first =>
  have H := HC6.out
  clear HC6
  replace H := Option.bind_eq_some_iff.mp H
  obtain ⟨t398, A80, H⟩ := H
  replace H : (if t398 = true then ((impl_NotesOk.f k l1).bind fun t399 => (if t399 = true then ((impl_isTick.f a2).bind fun t400 => (if t400 = true then ((impl_isCount.f a3).bind fun t401 => (if t401 = true then ((impl_isCount.f a4).bind fun t402 => (impl_Steady.j0 k l1 a2 a3 a4 (!t402) l0_0 a0_1 a0_2 l0_3 a0_4 a0_5 a0_6 a0_7)) else (impl_Steady.j0 k l1 a2 a3 a4 true l0_0 a0_1 a0_2 l0_3 a0_4 a0_5 a0_6 a0_7))) else (impl_Steady.j0 k l1 a2 a3 a4 true l0_0 a0_1 a0_2 l0_3 a0_4 a0_5 a0_6 a0_7))) else (impl_Steady.j0 k l1 a2 a3 a4 true l0_0 a0_1 a0_2 l0_3 a0_4 a0_5 a0_6 a0_7))) else (impl_Steady.j0 k l1 a2 a3 a4 true l0_0 a0_1 a0_2 l0_3 a0_4 a0_5 a0_6 a0_7)) = some r := H
  have A8 := ak_ A80
  clear A80
  by_cases c9 : t398 = true
  ·subst c9
   rw [if_pos rfl] at H
   replace H := Option.bind_eq_some_iff.mp H
   obtain ⟨t399, A100, H⟩ := H
   replace H : (if t399 = true then ((impl_isTick.f a2).bind fun t400 => (if t400 = true then ((impl_isCount.f a3).bind fun t401 => (if t401 = true then ((impl_isCount.f a4).bind fun t402 => (impl_Steady.j0 k l1 a2 a3 a4 (!t402) l0_0 a0_1 a0_2 l0_3 a0_4 a0_5 a0_6 a0_7)) else (impl_Steady.j0 k l1 a2 a3 a4 true l0_0 a0_1 a0_2 l0_3 a0_4 a0_5 a0_6 a0_7))) else (impl_Steady.j0 k l1 a2 a3 a4 true l0_0 a0_1 a0_2 l0_3 a0_4 a0_5 a0_6 a0_7))) else (impl_Steady.j0 k l1 a2 a3 a4 true l0_0 a0_1 a0_2 l0_3 a0_4 a0_5 a0_6 a0_7)) = some r := H
   have A10 := ak_ A100
   clear A100
   by_cases c11 : t399 = true
   ·subst c11
    rw [if_pos rfl] at H
    replace H := Option.bind_eq_some_iff.mp H
    obtain ⟨t400, A120, H⟩ := H
    replace H : (if t400 = true then ((impl_isCount.f a3).bind fun t401 => (if t401 = true then ((impl_isCount.f a4).bind fun t402 => (impl_Steady.j0 k l1 a2 a3 a4 (!t402) l0_0 a0_1 a0_2 l0_3 a0_4 a0_5 a0_6 a0_7)) else (impl_Steady.j0 k l1 a2 a3 a4 true l0_0 a0_1 a0_2 l0_3 a0_4 a0_5 a0_6 a0_7))) else (impl_Steady.j0 k l1 a2 a3 a4 true l0_0 a0_1 a0_2 l0_3 a0_4 a0_5 a0_6 a0_7)) = some r := H
    have A12 := ak_ A120
    clear A120
    by_cases c13 : t400 = true
    ·subst c13
     rw [if_pos rfl] at H
     replace H := Option.bind_eq_some_iff.mp H
     obtain ⟨t401, A140, H⟩ := H
     replace H : (if t401 = true then ((impl_isCount.f a4).bind fun t402 => (impl_Steady.j0 k l1 a2 a3 a4 (!t402) l0_0 a0_1 a0_2 l0_3 a0_4 a0_5 a0_6 a0_7)) else (impl_Steady.j0 k l1 a2 a3 a4 true l0_0 a0_1 a0_2 l0_3 a0_4 a0_5 a0_6 a0_7)) = some r := H
     have A14 := ak_ A140
     clear A140
     by_cases c15 : t401 = true
     ·subst c15
      rw [if_pos rfl] at H
      replace H := Option.bind_eq_some_iff.mp H
      obtain ⟨t402, A160, H⟩ := H
      replace H : (impl_Steady.j0 k l1 a2 a3 a4 (!t402) l0_0 a0_1 a0_2 l0_3 a0_4 a0_5 a0_6 a0_7) = some r := H
      have A16 := ak_ A160
      clear A160
      have H' := ak_ H
      clear H
      obtain ⟨hcz17_0, hcz17_1, hcz17_2, hcz17_3, hcz17_4, hcz17_5, hcz17_6, hcz17_7, hfz17_0, hfz17_1, hfz17_2, hfz17_3, hfz17_4, hfz17_5, hfz17_6, hfz17_7⟩ := bc8_ BK397.out
      go_wp2_with (first | ((with_reducible refine gate_callee (f := 43) rfl ?_); refine goesL_ (some 16) rfl rfl Try.func43 (by kernel_rfl) rfl #[.agg #[.slice A0_0 l0_0.length c0_0, .int .i64 a0_1, .int .i64 a0_2, .slice A0_3 l0_3.length c0_3, .int .i64 a0_4, .int .i64 a0_5, .int .i64 a0_6, .int .i64 a0_7]] rfl (ma1_ rfl) ?_; (with_reducible refine (impl_BehaveOk.calls k _ _ l0_0 a0_1 a0_2 _ _ l0_3 a0_4 a0_5 a0_6 a0_7 true _ ?side1 ?side2 ?side3 ?side4 A8.out).mono ?_); (case side1 => exact kc_ HR0_0); (case side2 => exact HC0_0.out); (case side3 => exact kc_ HR0_3); (case side4 => exact HC0_3.out); rintro e w18 ⟨rfl, hb⟩; refine ⟨_, rfl, ?_⟩; replace BK397 := ak_ (blk_below (bk_ BK397) hb); replace HB := ak_ (below_step hb_ hb); (try clear hb)) | (go_at_call 86; (with_reducible refine (impl_NotesOk.calls k _ _ l1 true _ ?side1 ?side2 A10.out).mono ?_); (case side1 => exact kc_ HR1); (case side2 => exact HC1.out); rintro e w19 ⟨rfl, hb⟩; replace BK397 := ak_ (blk_below (bk_ BK397) hb); replace HB := ak_ (below_step hb_ hb); (try clear hb)) | (go_at_call 67; (with_reducible refine (impl_isTick.calls a2 true _ A12.out).mono ?_); rintro e w' ⟨rfl, ⟨nd, rfl⟩⟩) | (go_at_call 68; (with_reducible refine (impl_isCount.calls a3 true _ A14.out).mono ?_); rintro e w' ⟨rfl, ⟨nd, rfl⟩⟩) | (go_at_call 68; (with_reducible refine (impl_isCount.calls a4 t402 _ A16.out).mono ?_); rintro e w' ⟨rfl, ⟨nd, rfl⟩⟩))
      go_meet
      case rel => exact ⟨_, (!t402), (by first | rfl | (simp; done) | (simp [*]; done)), H', ⟨by first | omega | exact Nat.le_refl _⟩, ⟨by (with_reducible repeat (first | refine kn_ ?_ _ | refine kd_ ?_ | refine ka_ ?_ _)); exact BK397.out⟩, ⟨hb_⟩⟩
     ·replace c15 := Bool.eq_false_iff.mpr c15
      subst c15
      rw [if_neg (show ¬ (false = true) by decide)] at H
      have H' := ak_ H
      clear H
      obtain ⟨hcz20_0, hcz20_1, hcz20_2, hcz20_3, hcz20_4, hcz20_5, hcz20_6, hcz20_7, hfz20_0, hfz20_1, hfz20_2, hfz20_3, hfz20_4, hfz20_5, hfz20_6, hfz20_7⟩ := bc8_ BK397.out
      go_wp2_with (first | ((with_reducible refine gate_callee (f := 43) rfl ?_); refine goesL_ (some 16) rfl rfl Try.func43 (by kernel_rfl) rfl #[.agg #[.slice A0_0 l0_0.length c0_0, .int .i64 a0_1, .int .i64 a0_2, .slice A0_3 l0_3.length c0_3, .int .i64 a0_4, .int .i64 a0_5, .int .i64 a0_6, .int .i64 a0_7]] rfl (ma1_ rfl) ?_; (with_reducible refine (impl_BehaveOk.calls k _ _ l0_0 a0_1 a0_2 _ _ l0_3 a0_4 a0_5 a0_6 a0_7 true _ ?side1 ?side2 ?side3 ?side4 A8.out).mono ?_); (case side1 => exact kc_ HR0_0); (case side2 => exact HC0_0.out); (case side3 => exact kc_ HR0_3); (case side4 => exact HC0_3.out); rintro e w21 ⟨rfl, hb⟩; refine ⟨_, rfl, ?_⟩; replace BK397 := ak_ (blk_below (bk_ BK397) hb); replace HB := ak_ (below_step hb_ hb); (try clear hb)) | (go_at_call 86; (with_reducible refine (impl_NotesOk.calls k _ _ l1 true _ ?side1 ?side2 A10.out).mono ?_); (case side1 => exact kc_ HR1); (case side2 => exact HC1.out); rintro e w22 ⟨rfl, hb⟩; replace BK397 := ak_ (blk_below (bk_ BK397) hb); replace HB := ak_ (below_step hb_ hb); (try clear hb)) | (go_at_call 67; (with_reducible refine (impl_isTick.calls a2 true _ A12.out).mono ?_); rintro e w' ⟨rfl, ⟨nd, rfl⟩⟩) | (go_at_call 68; (with_reducible refine (impl_isCount.calls a3 false _ A14.out).mono ?_); rintro e w' ⟨rfl, ⟨nd, rfl⟩⟩))
      go_meet
      case rel => exact ⟨_, (true), (by first | rfl | (simp; done) | (simp [*]; done)), H', ⟨by first | omega | exact Nat.le_refl _⟩, ⟨by (with_reducible repeat (first | refine kn_ ?_ _ | refine kd_ ?_ | refine ka_ ?_ _)); exact BK397.out⟩, ⟨hb_⟩⟩
    ·replace c13 := Bool.eq_false_iff.mpr c13
     subst c13
     rw [if_neg (show ¬ (false = true) by decide)] at H
     have H' := ak_ H
     clear H
     obtain ⟨hcz23_0, hcz23_1, hcz23_2, hcz23_3, hcz23_4, hcz23_5, hcz23_6, hcz23_7, hfz23_0, hfz23_1, hfz23_2, hfz23_3, hfz23_4, hfz23_5, hfz23_6, hfz23_7⟩ := bc8_ BK397.out
     go_wp2_with (first | ((with_reducible refine gate_callee (f := 43) rfl ?_); refine goesL_ (some 16) rfl rfl Try.func43 (by kernel_rfl) rfl #[.agg #[.slice A0_0 l0_0.length c0_0, .int .i64 a0_1, .int .i64 a0_2, .slice A0_3 l0_3.length c0_3, .int .i64 a0_4, .int .i64 a0_5, .int .i64 a0_6, .int .i64 a0_7]] rfl (ma1_ rfl) ?_; (with_reducible refine (impl_BehaveOk.calls k _ _ l0_0 a0_1 a0_2 _ _ l0_3 a0_4 a0_5 a0_6 a0_7 true _ ?side1 ?side2 ?side3 ?side4 A8.out).mono ?_); (case side1 => exact kc_ HR0_0); (case side2 => exact HC0_0.out); (case side3 => exact kc_ HR0_3); (case side4 => exact HC0_3.out); rintro e w24 ⟨rfl, hb⟩; refine ⟨_, rfl, ?_⟩; replace BK397 := ak_ (blk_below (bk_ BK397) hb); replace HB := ak_ (below_step hb_ hb); (try clear hb)) | (go_at_call 86; (with_reducible refine (impl_NotesOk.calls k _ _ l1 true _ ?side1 ?side2 A10.out).mono ?_); (case side1 => exact kc_ HR1); (case side2 => exact HC1.out); rintro e w25 ⟨rfl, hb⟩; replace BK397 := ak_ (blk_below (bk_ BK397) hb); replace HB := ak_ (below_step hb_ hb); (try clear hb)) | (go_at_call 67; (with_reducible refine (impl_isTick.calls a2 false _ A12.out).mono ?_); rintro e w' ⟨rfl, ⟨nd, rfl⟩⟩))
     go_meet
     case rel => exact ⟨_, (true), (by first | rfl | (simp; done) | (simp [*]; done)), H', ⟨by first | omega | exact Nat.le_refl _⟩, ⟨by (with_reducible repeat (first | refine kn_ ?_ _ | refine kd_ ?_ | refine ka_ ?_ _)); exact BK397.out⟩, ⟨hb_⟩⟩
   ·replace c11 := Bool.eq_false_iff.mpr c11
    subst c11
    rw [if_neg (show ¬ (false = true) by decide)] at H
    have H' := ak_ H
    clear H
    obtain ⟨hcz26_0, hcz26_1, hcz26_2, hcz26_3, hcz26_4, hcz26_5, hcz26_6, hcz26_7, hfz26_0, hfz26_1, hfz26_2, hfz26_3, hfz26_4, hfz26_5, hfz26_6, hfz26_7⟩ := bc8_ BK397.out
    go_wp2_with (first | ((with_reducible refine gate_callee (f := 43) rfl ?_); refine goesL_ (some 16) rfl rfl Try.func43 (by kernel_rfl) rfl #[.agg #[.slice A0_0 l0_0.length c0_0, .int .i64 a0_1, .int .i64 a0_2, .slice A0_3 l0_3.length c0_3, .int .i64 a0_4, .int .i64 a0_5, .int .i64 a0_6, .int .i64 a0_7]] rfl (ma1_ rfl) ?_; (with_reducible refine (impl_BehaveOk.calls k _ _ l0_0 a0_1 a0_2 _ _ l0_3 a0_4 a0_5 a0_6 a0_7 true _ ?side1 ?side2 ?side3 ?side4 A8.out).mono ?_); (case side1 => exact kc_ HR0_0); (case side2 => exact HC0_0.out); (case side3 => exact kc_ HR0_3); (case side4 => exact HC0_3.out); rintro e w27 ⟨rfl, hb⟩; refine ⟨_, rfl, ?_⟩; replace BK397 := ak_ (blk_below (bk_ BK397) hb); replace HB := ak_ (below_step hb_ hb); (try clear hb)) | (go_at_call 86; (with_reducible refine (impl_NotesOk.calls k _ _ l1 false _ ?side1 ?side2 A10.out).mono ?_); (case side1 => exact kc_ HR1); (case side2 => exact HC1.out); rintro e w28 ⟨rfl, hb⟩; replace BK397 := ak_ (blk_below (bk_ BK397) hb); replace HB := ak_ (below_step hb_ hb); (try clear hb)))
    go_meet
    case rel => exact ⟨_, (true), (by first | rfl | (simp; done) | (simp [*]; done)), H', ⟨by first | omega | exact Nat.le_refl _⟩, ⟨by (with_reducible repeat (first | refine kn_ ?_ _ | refine kd_ ?_ | refine ka_ ?_ _)); exact BK397.out⟩, ⟨hb_⟩⟩
  ·replace c9 := Bool.eq_false_iff.mpr c9
   subst c9
   rw [if_neg (show ¬ (false = true) by decide)] at H
   have H' := ak_ H
   clear H
   obtain ⟨hcz29_0, hcz29_1, hcz29_2, hcz29_3, hcz29_4, hcz29_5, hcz29_6, hcz29_7, hfz29_0, hfz29_1, hfz29_2, hfz29_3, hfz29_4, hfz29_5, hfz29_6, hfz29_7⟩ := bc8_ BK397.out
   go_wp2_with (first | ((with_reducible refine gate_callee (f := 43) rfl ?_); refine goesL_ (some 16) rfl rfl Try.func43 (by kernel_rfl) rfl #[.agg #[.slice A0_0 l0_0.length c0_0, .int .i64 a0_1, .int .i64 a0_2, .slice A0_3 l0_3.length c0_3, .int .i64 a0_4, .int .i64 a0_5, .int .i64 a0_6, .int .i64 a0_7]] rfl (ma1_ rfl) ?_; (with_reducible refine (impl_BehaveOk.calls k _ _ l0_0 a0_1 a0_2 _ _ l0_3 a0_4 a0_5 a0_6 a0_7 false _ ?side1 ?side2 ?side3 ?side4 A8.out).mono ?_); (case side1 => exact kc_ HR0_0); (case side2 => exact HC0_0.out); (case side3 => exact kc_ HR0_3); (case side4 => exact HC0_3.out); rintro e w30 ⟨rfl, hb⟩; refine ⟨_, rfl, ?_⟩; replace BK397 := ak_ (blk_below (bk_ BK397) hb); replace HB := ak_ (below_step hb_ hb); (try clear hb)))
   go_meet
   case rel => exact ⟨_, (true), (by first | rfl | (simp; done) | (simp [*]; done)), H', ⟨by first | omega | exact Nat.le_refl _⟩, ⟨by (with_reducible repeat (first | refine kn_ ?_ _ | refine kd_ ?_ | refine ka_ ?_ _)); exact BK397.out⟩, ⟨hb_⟩⟩
 case rest =>
  clear HC6
  try clear c1
  try clear p2
  try clear c4
  try clear c9
  try clear c11
  try clear c13
  try clear c15
  (try clear hcz17_0 hcz17_1 hcz17_2 hcz17_3 hcz17_4 hcz17_5 hcz17_6 hcz17_7 hfz17_0 hfz17_1 hfz17_2 hfz17_3 hfz17_4 hfz17_5 hfz17_6 hfz17_7); (try clear hcz20_0 hcz20_1 hcz20_2 hcz20_3 hcz20_4 hcz20_5 hcz20_6 hcz20_7 hfz20_0 hfz20_1 hfz20_2 hfz20_3 hfz20_4 hfz20_5 hfz20_6 hfz20_7); (try clear hcz23_0 hcz23_1 hcz23_2 hcz23_3 hcz23_4 hcz23_5 hcz23_6 hcz23_7 hfz23_0 hfz23_1 hfz23_2 hfz23_3 hfz23_4 hfz23_5 hfz23_6 hfz23_7); (try clear hcz26_0 hcz26_1 hcz26_2 hcz26_3 hcz26_4 hcz26_5 hcz26_6 hcz26_7 hfz26_0 hfz26_1 hfz26_2 hfz26_3 hfz26_4 hfz26_5 hfz26_6 hfz26_7); (try clear hcz29_0 hcz29_1 hcz29_2 hcz29_3 hcz29_4 hcz29_5 hcz29_6 hcz29_7 hfz29_0 hfz29_1 hfz29_2 hfz29_3 hfz29_4 hfz29_5 hfz29_6 hfz29_7)
  obtain ⟨kq, x37_5, rfl, HA, HJ5, BK397, HB⟩ := hcut
  cases kq with
  | zero => exact absurd HA.out (by simp [impl_Steady.j0])
  | succ kj5 =>
   have H := HA.out
   clear HA
   simp only [impl_Steady.j0] at H
   by_cases c31 : x37_5 = true
   ·subst c31
    rw [if_pos rfl] at H
    obtain rfl := Option.some.inj H
    go_wp2
    go_ret
    exact ⟨ew_, hb_⟩
   ·replace c31 := Bool.eq_false_iff.mpr c31
    subst c31
    rw [if_neg (show ¬ (false = true) by decide)] at H
    have H' := ak_ H
    clear H
    go_wp2
    go_loopg [11, 12, 42] kj5 (fun kq v11 v12 v42 w' => ∃ (x11_2 : Int) (x12_2 : Int) (x42_2 : Int), v11 = .int .i64 x11_2 ∧ v12 = .int .i64 x12_2 ∧ v42 = .int .i64 x42_2 ∧ Aside0 (impl_Steady.l0 kq a2 a3 x11_2 x12_2 l1 (l1.length : Int) x42_2 l0_0 a0_1 a0_2 l0_3 a0_4 a0_5 a0_6 a0_7 = some r) ∧ Aside0 (kq ≤ kj5) ∧ Aside0 (w'.heap[gb397]? = some (.cells #[(.slice A0_0 l0_0.length c0_0), .int .i64 a0_1, .int .i64 a0_2, (.slice A0_3 l0_3.length c0_3), .int .i64 a0_4, .int .i64 a0_5, .int .i64 a0_6, .int .i64 a0_7] 35 (0, 0))) ∧ Aside0 (Below w.heap.size w w'))
    case atStart => exact ⟨(a4), (a4), (0), (by first | rfl | (simp; done) | (simp [*]; done)), (by first | rfl | (simp; done) | (simp [*]; done)), (by first | rfl | (simp; done) | (simp [*]; done)), H', ⟨Nat.le_refl _⟩, ⟨by (with_reducible repeat (first | refine kn_ ?_ _ | refine kd_ ?_ | refine ka_ ?_ _)); exact BK397.out⟩, ⟨hb_⟩⟩
    case round =>
     clear H'
     try clear c1
     try clear p2
     try clear c3
     try clear c4
     try clear c9
     try clear c11
     try clear c13
     try clear c15
     try clear c31
     try clear p2
     (try clear hcz17_0 hcz17_1 hcz17_2 hcz17_3 hcz17_4 hcz17_5 hcz17_6 hcz17_7 hfz17_0 hfz17_1 hfz17_2 hfz17_3 hfz17_4 hfz17_5 hfz17_6 hfz17_7); (try clear hcz20_0 hcz20_1 hcz20_2 hcz20_3 hcz20_4 hcz20_5 hcz20_6 hcz20_7 hfz20_0 hfz20_1 hfz20_2 hfz20_3 hfz20_4 hfz20_5 hfz20_6 hfz20_7); (try clear hcz23_0 hcz23_1 hcz23_2 hcz23_3 hcz23_4 hcz23_5 hcz23_6 hcz23_7 hfz23_0 hfz23_1 hfz23_2 hfz23_3 hfz23_4 hfz23_5 hfz23_6 hfz23_7); (try clear hcz26_0 hcz26_1 hcz26_2 hcz26_3 hcz26_4 hcz26_5 hcz26_6 hcz26_7 hfz26_0 hfz26_1 hfz26_2 hfz26_3 hfz26_4 hfz26_5 hfz26_6 hfz26_7); (try clear hcz29_0 hcz29_1 hcz29_2 hcz29_3 hcz29_4 hcz29_5 hcz29_6 hcz29_7 hfz29_0 hfz29_1 hfz29_2 hfz29_3 hfz29_4 hfz29_5 hfz29_6 hfz29_7)
     obtain ⟨x11_2, x12_2, x42_2, rfl, rfl, rfl, HA, HK2, BK397, HB⟩ := hrel
     cases gk with
     | zero => exact absurd HA.out (by simp [impl_Steady.l0])
     | succ k2 =>
      have H := HA.out
      clear HA
      simp only [impl_Steady.l0] at H
      by_cases c32 : x42_2 < (l1.length : Int)
      ·rw [if_pos c32] at H
       have c32b0 : decide (x42_2 < (l1.length : Int)) = true := decide_eq_true c32
       clear c32
       by_cases c33 : 0 ≤ x42_2
       ·rw [if_pos c33] at H
        have c33b0 : decide (0 ≤ x42_2) = true := decide_eq_true c33
        clear c33
        by_cases c34 : x42_2 < (l1.length : Int)
        ·rw [if_pos c34] at H
         have c34b0 : decide (x42_2 < (l1.length : Int)) = true := decide_eq_true c34
         clear c34
         by_cases c35 : ((rd_T109 l1 x42_2).f0) > a2
         ·rw [if_pos c35] at H
          have c35b0 : decide (a2 < ((rd_T109 l1 x42_2).f0)) = true := decide_eq_true c35
          clear c35
          have H' := ak_ H
          clear H
          have p403 : 0 ≤ (x42_2 : Int) := of_decide_eq_true (by first | (with_reducible assumption) | assumption)
          have q403 : x42_2 < (l1.length : Int) := of_decide_eq_true (by first | (with_reducible assumption) | assumption)
          obtain ⟨ad403, e403, hx403_0, hx403_1⟩ := at_T109 HR1.out x42_2 p403 q403
          cases e403
          replace hx403_0 := cx_ HB hx403_0
          replace hx403_1 := cx_ HB hx403_1
          replace p403 := eq_true p403
          replace q403 := eq_true q403
          go_wp2_with (first | ((with_reducible refine gate_dst (N := 14) rfl ?_); refine be_ (N := 14) (cs := #[.int .i64 0, .int .i64 0]) (t := 109) ?_; intro gb404 hg w36 hbox hb; have BK404 := ak_ hbox; have GW404 := ak_ ((gs_ hg : w.heap.size ≤ gb404)); have GE404 := ak_ ((gs_ hg : w.heap.size ≤ gb404)); replace HB := ak_ (below_step hb_ hb); have NB397_404 := ak_ (nl_ hg (bk_ BK397)); have NB404_397 := ak_ (ng_ hg (bk_ BK397)); replace BK397 := ak_ (blk_below (bk_ BK397) hb); clear hb hbox hg; have hnb37 := NB404_397.out; have hnc37 := NB397_404.out; obtain ⟨hcz38_0, hcz38_1, hfz38_0, hfz38_1⟩ := bc2_ BK404.out))
          go_roundg k2
          case measure => have := HJ5.out; have := HK2.out; omega
          case rel => exact ⟨(x11_2), (x12_2), (wrap64 (x42_2 + 1)), (by first | rfl | (simp; done) | (simp [*]; done)), (by first | rfl | (simp; done) | (simp [*]; done)), (by first | rfl | (simp; done) | (simp [*]; done)), H', ⟨by have := HJ5.out; have := HK2.out; omega⟩, ⟨by (with_reducible repeat (first | refine kn_ ?_ _ | refine kd_ ?_ | refine ka_ ?_ _)); refine blk_far ?_ NB397_404.out _; (with_reducible repeat (first | refine kn_ ?_ _ | refine kd_ ?_ | refine ka_ ?_ _)); refine blk_far ?_ NB397_404.out _; (with_reducible repeat (first | refine kn_ ?_ _ | refine kd_ ?_ | refine ka_ ?_ _)); exact BK397.out⟩, ⟨hb_⟩⟩
         ·rw [if_neg c35] at H
          have c35b0 : decide (a2 < ((rd_T109 l1 x42_2).f0)) = false := decide_eq_false c35
          clear c35
          by_cases c39 : ((rd_T109 l1 x42_2).f0) > (wrap64 (a2 - a0_2))
          ·rw [if_pos c39] at H
           have c39b0 : decide ((wrap64 (a2 - a0_2)) < ((rd_T109 l1 x42_2).f0)) = true := decide_eq_true c39
           clear c39
           obtain ⟨ji40, hji40⟩ : ∃ j_ : Int, (mn x11_2 ((rd_T109 l1 x42_2).f1)) = j_ := ⟨_, rfl⟩
           replace H : (if ((rd_T109 l1 x42_2).f0) > (wrap64 (a2 - a0_5)) then (impl_Steady.l0 k2 a2 a3 ji40 (mx x12_2 ((rd_T109 l1 x42_2).f1)) l1 (l1.length : Int) (wrap64 (x42_2 + 1)) l0_0 a0_1 a0_2 l0_3 a0_4 a0_5 a0_6 a0_7) else (impl_Steady.l0 k2 a2 a3 ji40 x12_2 l1 (l1.length : Int) (wrap64 (x42_2 + 1)) l0_0 a0_1 a0_2 l0_3 a0_4 a0_5 a0_6 a0_7)) = some r := by first | (rw [hji40] at H; exact H) | (simp only [hji40] at H ⊢; exact H)
           have hji40_ : (if ((rd_T109 l1 x42_2).f1) < x11_2 then ((rd_T109 l1 x42_2).f1) else x11_2) = ji40 := hji40
           by_cases c41 : ((rd_T109 l1 x42_2).f0) > (wrap64 (a2 - a0_5))
           ·rw [if_pos c41] at H
            have c41b0 : decide ((wrap64 (a2 - a0_5)) < ((rd_T109 l1 x42_2).f0)) = true := decide_eq_true c41
            clear c41
            obtain ⟨ji42, hji42⟩ : ∃ j_ : Int, (mx x12_2 ((rd_T109 l1 x42_2).f1)) = j_ := ⟨_, rfl⟩
            replace H : (impl_Steady.l0 k2 a2 a3 ji40 ji42 l1 (l1.length : Int) (wrap64 (x42_2 + 1)) l0_0 a0_1 a0_2 l0_3 a0_4 a0_5 a0_6 a0_7) = some r := by first | (rw [hji42] at H; exact H) | (simp only [hji42] at H ⊢; exact H)
            have hji42_ : (if x12_2 < ((rd_T109 l1 x42_2).f1) then ((rd_T109 l1 x42_2).f1) else x12_2) = ji42 := hji42
            have H' := ak_ H
            clear H
            have p403 : 0 ≤ (x42_2 : Int) := of_decide_eq_true (by first | (with_reducible assumption) | assumption)
            have q403 : x42_2 < (l1.length : Int) := of_decide_eq_true (by first | (with_reducible assumption) | assumption)
            obtain ⟨ad403, e403, hx403_0, hx403_1⟩ := at_T109 HR1.out x42_2 p403 q403
            cases e403
            replace hx403_0 := cx_ HB hx403_0
            replace hx403_1 := cx_ HB hx403_1
            replace p403 := eq_true p403
            replace q403 := eq_true q403
            go_wp2_with (first | ((with_reducible refine gate_dst (N := 14) rfl ?_); refine be_ (N := 14) (cs := #[.int .i64 0, .int .i64 0]) (t := 109) ?_; intro gb404 hg w43 hbox hb; have BK404 := ak_ hbox; have GW404 := ak_ ((gs_ hg : w.heap.size ≤ gb404)); have GE404 := ak_ ((gs_ hg : w.heap.size ≤ gb404)); replace HB := ak_ (below_step hb_ hb); have NB397_404 := ak_ (nl_ hg (bk_ BK397)); have NB404_397 := ak_ (ng_ hg (bk_ BK397)); replace BK397 := ak_ (blk_below (bk_ BK397) hb); clear hb hbox hg; have hnb44 := NB404_397.out; have hnc44 := NB397_404.out; obtain ⟨hcz45_0, hcz45_1, hfz45_0, hfz45_1⟩ := bc2_ BK404.out; obtain ⟨hcz46_0, hcz46_1, hcz46_2, hcz46_3, hcz46_4, hcz46_5, hcz46_6, hcz46_7, hfz46_0, hfz46_1, hfz46_2, hfz46_3, hfz46_4, hfz46_5, hfz46_6, hfz46_7⟩ := bc8_ BK397.out))
            go_roundg k2
            case measure => have := HJ5.out; have := HK2.out; omega
            case rel => exact ⟨(ji40), (ji42), (wrap64 (x42_2 + 1)), (by first | rfl | (simp; done) | (simp only [← hji40] <;> (first | rfl | simp)) | (simp [*]; done)), (by first | rfl | (simp; done) | (simp only [← hji42] <;> (first | rfl | simp)) | (simp [*]; done)), (by first | rfl | (simp; done) | (simp [*]; done)), H', ⟨by have := HJ5.out; have := HK2.out; omega⟩, ⟨by (with_reducible repeat (first | refine kn_ ?_ _ | refine kd_ ?_ | refine ka_ ?_ _)); refine blk_far ?_ NB397_404.out _; (with_reducible repeat (first | refine kn_ ?_ _ | refine kd_ ?_ | refine ka_ ?_ _)); refine blk_far ?_ NB397_404.out _; (with_reducible repeat (first | refine kn_ ?_ _ | refine kd_ ?_ | refine ka_ ?_ _)); exact BK397.out⟩, ⟨hb_⟩⟩
           ·rw [if_neg c41] at H
            have c41b0 : decide ((wrap64 (a2 - a0_5)) < ((rd_T109 l1 x42_2).f0)) = false := decide_eq_false c41
            clear c41
            have H' := ak_ H
            clear H
            have p403 : 0 ≤ (x42_2 : Int) := of_decide_eq_true (by first | (with_reducible assumption) | assumption)
            have q403 : x42_2 < (l1.length : Int) := of_decide_eq_true (by first | (with_reducible assumption) | assumption)
            obtain ⟨ad403, e403, hx403_0, hx403_1⟩ := at_T109 HR1.out x42_2 p403 q403
            cases e403
            replace hx403_0 := cx_ HB hx403_0
            replace hx403_1 := cx_ HB hx403_1
            replace p403 := eq_true p403
            replace q403 := eq_true q403
            go_wp2_with (first | ((with_reducible refine gate_dst (N := 14) rfl ?_); refine be_ (N := 14) (cs := #[.int .i64 0, .int .i64 0]) (t := 109) ?_; intro gb404 hg w47 hbox hb; have BK404 := ak_ hbox; have GW404 := ak_ ((gs_ hg : w.heap.size ≤ gb404)); have GE404 := ak_ ((gs_ hg : w.heap.size ≤ gb404)); replace HB := ak_ (below_step hb_ hb); have NB397_404 := ak_ (nl_ hg (bk_ BK397)); have NB404_397 := ak_ (ng_ hg (bk_ BK397)); replace BK397 := ak_ (blk_below (bk_ BK397) hb); clear hb hbox hg; have hnb48 := NB404_397.out; have hnc48 := NB397_404.out; obtain ⟨hcz49_0, hcz49_1, hfz49_0, hfz49_1⟩ := bc2_ BK404.out; obtain ⟨hcz50_0, hcz50_1, hcz50_2, hcz50_3, hcz50_4, hcz50_5, hcz50_6, hcz50_7, hfz50_0, hfz50_1, hfz50_2, hfz50_3, hfz50_4, hfz50_5, hfz50_6, hfz50_7⟩ := bc8_ BK397.out))
            go_roundg k2
            case measure => have := HJ5.out; have := HK2.out; omega
            case rel => exact ⟨(ji40), (x12_2), (wrap64 (x42_2 + 1)), (by first | rfl | (simp; done) | (simp only [← hji40] <;> (first | rfl | simp)) | (simp [*]; done)), (by first | rfl | (simp; done) | (simp [*]; done)), (by first | rfl | (simp; done) | (simp [*]; done)), H', ⟨by have := HJ5.out; have := HK2.out; omega⟩, ⟨by (with_reducible repeat (first | refine kn_ ?_ _ | refine kd_ ?_ | refine ka_ ?_ _)); refine blk_far ?_ NB397_404.out _; (with_reducible repeat (first | refine kn_ ?_ _ | refine kd_ ?_ | refine ka_ ?_ _)); refine blk_far ?_ NB397_404.out _; (with_reducible repeat (first | refine kn_ ?_ _ | refine kd_ ?_ | refine ka_ ?_ _)); exact BK397.out⟩, ⟨hb_⟩⟩
          ·rw [if_neg c39] at H
           have c39b0 : decide ((wrap64 (a2 - a0_2)) < ((rd_T109 l1 x42_2).f0)) = false := decide_eq_false c39
           clear c39
           by_cases c51 : ((rd_T109 l1 x42_2).f0) > (wrap64 (a2 - a0_5))
           ·rw [if_pos c51] at H
            have c51b0 : decide ((wrap64 (a2 - a0_5)) < ((rd_T109 l1 x42_2).f0)) = true := decide_eq_true c51
            clear c51
            obtain ⟨ji52, hji52⟩ : ∃ j_ : Int, (mx x12_2 ((rd_T109 l1 x42_2).f1)) = j_ := ⟨_, rfl⟩
            replace H : (impl_Steady.l0 k2 a2 a3 x11_2 ji52 l1 (l1.length : Int) (wrap64 (x42_2 + 1)) l0_0 a0_1 a0_2 l0_3 a0_4 a0_5 a0_6 a0_7) = some r := by first | (rw [hji52] at H; exact H) | (simp only [hji52] at H ⊢; exact H)
            have hji52_ : (if x12_2 < ((rd_T109 l1 x42_2).f1) then ((rd_T109 l1 x42_2).f1) else x12_2) = ji52 := hji52
            have H' := ak_ H
            clear H
            have p403 : 0 ≤ (x42_2 : Int) := of_decide_eq_true (by first | (with_reducible assumption) | assumption)
            have q403 : x42_2 < (l1.length : Int) := of_decide_eq_true (by first | (with_reducible assumption) | assumption)
            obtain ⟨ad403, e403, hx403_0, hx403_1⟩ := at_T109 HR1.out x42_2 p403 q403
            cases e403
            replace hx403_0 := cx_ HB hx403_0
            replace hx403_1 := cx_ HB hx403_1
            replace p403 := eq_true p403
            replace q403 := eq_true q403
            go_wp2_with (first | ((with_reducible refine gate_dst (N := 14) rfl ?_); refine be_ (N := 14) (cs := #[.int .i64 0, .int .i64 0]) (t := 109) ?_; intro gb404 hg w53 hbox hb; have BK404 := ak_ hbox; have GW404 := ak_ ((gs_ hg : w.heap.size ≤ gb404)); have GE404 := ak_ ((gs_ hg : w.heap.size ≤ gb404)); replace HB := ak_ (below_step hb_ hb); have NB397_404 := ak_ (nl_ hg (bk_ BK397)); have NB404_397 := ak_ (ng_ hg (bk_ BK397)); replace BK397 := ak_ (blk_below (bk_ BK397) hb); clear hb hbox hg; have hnb54 := NB404_397.out; have hnc54 := NB397_404.out; obtain ⟨hcz55_0, hcz55_1, hfz55_0, hfz55_1⟩ := bc2_ BK404.out; obtain ⟨hcz56_0, hcz56_1, hcz56_2, hcz56_3, hcz56_4, hcz56_5, hcz56_6, hcz56_7, hfz56_0, hfz56_1, hfz56_2, hfz56_3, hfz56_4, hfz56_5, hfz56_6, hfz56_7⟩ := bc8_ BK397.out))
            go_roundg k2
            case measure => have := HJ5.out; have := HK2.out; omega
            case rel => exact ⟨(x11_2), (ji52), (wrap64 (x42_2 + 1)), (by first | rfl | (simp; done) | (simp [*]; done)), (by first | rfl | (simp; done) | (simp only [← hji52] <;> (first | rfl | simp)) | (simp [*]; done)), (by first | rfl | (simp; done) | (simp [*]; done)), H', ⟨by have := HJ5.out; have := HK2.out; omega⟩, ⟨by (with_reducible repeat (first | refine kn_ ?_ _ | refine kd_ ?_ | refine ka_ ?_ _)); refine blk_far ?_ NB397_404.out _; (with_reducible repeat (first | refine kn_ ?_ _ | refine kd_ ?_ | refine ka_ ?_ _)); refine blk_far ?_ NB397_404.out _; (with_reducible repeat (first | refine kn_ ?_ _ | refine kd_ ?_ | refine ka_ ?_ _)); exact BK397.out⟩, ⟨hb_⟩⟩
           ·rw [if_neg c51] at H
            have c51b0 : decide ((wrap64 (a2 - a0_5)) < ((rd_T109 l1 x42_2).f0)) = false := decide_eq_false c51
            clear c51
            have H' := ak_ H
            clear H
            have p403 : 0 ≤ (x42_2 : Int) := of_decide_eq_true (by first | (with_reducible assumption) | assumption)
            have q403 : x42_2 < (l1.length : Int) := of_decide_eq_true (by first | (with_reducible assumption) | assumption)
            obtain ⟨ad403, e403, hx403_0, hx403_1⟩ := at_T109 HR1.out x42_2 p403 q403
            cases e403
            replace hx403_0 := cx_ HB hx403_0
            replace hx403_1 := cx_ HB hx403_1
            replace p403 := eq_true p403
            replace q403 := eq_true q403
            go_wp2_with (first | ((with_reducible refine gate_dst (N := 14) rfl ?_); refine be_ (N := 14) (cs := #[.int .i64 0, .int .i64 0]) (t := 109) ?_; intro gb404 hg w57 hbox hb; have BK404 := ak_ hbox; have GW404 := ak_ ((gs_ hg : w.heap.size ≤ gb404)); have GE404 := ak_ ((gs_ hg : w.heap.size ≤ gb404)); replace HB := ak_ (below_step hb_ hb); have NB397_404 := ak_ (nl_ hg (bk_ BK397)); have NB404_397 := ak_ (ng_ hg (bk_ BK397)); replace BK397 := ak_ (blk_below (bk_ BK397) hb); clear hb hbox hg; have hnb58 := NB404_397.out; have hnc58 := NB397_404.out; obtain ⟨hcz59_0, hcz59_1, hfz59_0, hfz59_1⟩ := bc2_ BK404.out; obtain ⟨hcz60_0, hcz60_1, hcz60_2, hcz60_3, hcz60_4, hcz60_5, hcz60_6, hcz60_7, hfz60_0, hfz60_1, hfz60_2, hfz60_3, hfz60_4, hfz60_5, hfz60_6, hfz60_7⟩ := bc8_ BK397.out))
            go_roundg k2
            case measure => have := HJ5.out; have := HK2.out; omega
            case rel => exact ⟨(x11_2), (x12_2), (wrap64 (x42_2 + 1)), (by first | rfl | (simp; done) | (simp [*]; done)), (by first | rfl | (simp; done) | (simp [*]; done)), (by first | rfl | (simp; done) | (simp [*]; done)), H', ⟨by have := HJ5.out; have := HK2.out; omega⟩, ⟨by (with_reducible repeat (first | refine kn_ ?_ _ | refine kd_ ?_ | refine ka_ ?_ _)); refine blk_far ?_ NB397_404.out _; (with_reducible repeat (first | refine kn_ ?_ _ | refine kd_ ?_ | refine ka_ ?_ _)); refine blk_far ?_ NB397_404.out _; (with_reducible repeat (first | refine kn_ ?_ _ | refine kd_ ?_ | refine ka_ ?_ _)); exact BK397.out⟩, ⟨hb_⟩⟩
        ·rw [if_neg c34] at H
         exact absurd H (by simp)
       ·rw [if_neg c33] at H
        exact absurd H (by simp)
      ·rw [if_neg c32] at H
       have c32b0 : decide (x42_2 < (l1.length : Int)) = false := decide_eq_false c32
       clear c32
       by_cases c61 : a3 < x11_2
       ·rw [if_pos c61] at H
        have c61b0 : decide (a3 < x11_2) = true := decide_eq_true c61
        clear c61
        obtain rfl := Option.some.inj H
        go_wp2
        go_ret
        exact ⟨ew_, hb_⟩
       ·rw [if_neg c61] at H
        have c61b0 : decide (a3 < x11_2) = false := decide_eq_false c61
        clear c61
        by_cases c62 : a3 > x12_2
        ·rw [if_pos c62] at H
         have c62b0 : decide (x12_2 < a3) = true := decide_eq_true c62
         clear c62
         obtain rfl := Option.some.inj H
         go_wp2
         go_ret
         exact ⟨ew_, hb_⟩
        ·rw [if_neg c62] at H
         have c62b0 : decide (x12_2 < a3) = false := decide_eq_false c62
         clear c62
         obtain rfl := Option.some.inj H
         go_wp2
         go_ret
         exact ⟨ew_, hb_⟩

end Go.Proofs.Ytfjjlipfjddaiaa.Bo
