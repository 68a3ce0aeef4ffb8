-- PRINTED by print.py (a twelfth state) out of the translation. Not trusted: Lean checks it.
import Derived.Test.YtfjjlipfjddaiaaBo0
import Derived.Test.YtfjjlipfjddaiaaBo22
import Derived.Test.YtfjjlipfjddaiaaBo23
namespace Go.Proofs.Ytfjjlipfjddaiaa.Bo
open Go.RowKit Go.Proofs.YtfjjlipfjddaiaaW.PrintWords Go.Proofs.YtfjjlipfjddaiaaW.PrintLast Go.Proofs.YtfjjlipfjddaiaaW.PrintMore
attribute [local go_sem] max2_int min2_int max_two min_two max_three min_three max_four min_four   -- for this text's walks alone
set_option linter.unusedVariables false
set_option linter.unusedSimpArgs false

/-! ### spec_Steady: function 49 -/
mutual
def spec_Steady.j0 : Nat → List (S109) → Int → Int → Int → Bool → List (S96) → Int → Int → List (S96) → Int → Int → Int → Int → Option (Int)
  | 0, _, _, _, _, _, _, _, _, _, _, _, _, _ => none
  | k + 1, x1, x2, x3, x4, x37, x475000, x475001, x475002, x475003, x475004, x475005, x475006, x475007 => if x37 = true then (some (-1)) else (spec_Steady.l0 k x1 x2 x3 x4 x4 0 x475000 x475001 x475002 x475003 x475004 x475005 x475006 x475007)
def spec_Steady.l0 : Nat → List (S109) → Int → Int → Int → Int → Int → List (S96) → Int → Int → List (S96) → Int → Int → Int → Int → Option (Int)
  | 0, _, _, _, _, _, _, _, _, _, _, _, _, _, _ => none
  | k + 1, x1, x2, x3, x11, x12, x13, x475000, x475001, x475002, x475003, x475004, x475005, x475006, x475007 => if x13 < (x1.length : Int) then (if 0 ≤ x13 then (if ((rd_T109 x1 x13).f0) > (wrap64 (x2 - x475002)) then (if ((rd_T109 x1 x13).f0) ≤ x2 then (spec_Steady.j2 k x1 x2 x3 x11 x12 x13 (decide (((rd_T109 x1 x13).f1) < x11)) x475000 x475001 x475002 x475003 x475004 x475005 x475006 x475007 ((rd_T109 x1 x13).f0) ((rd_T109 x1 x13).f1)) else (spec_Steady.j2 k x1 x2 x3 x11 x12 x13 false x475000 x475001 x475002 x475003 x475004 x475005 x475006 x475007 ((rd_T109 x1 x13).f0) ((rd_T109 x1 x13).f1))) else (spec_Steady.j2 k x1 x2 x3 x11 x12 x13 false x475000 x475001 x475002 x475003 x475004 x475005 x475006 x475007 ((rd_T109 x1 x13).f0) ((rd_T109 x1 x13).f1))) else (none)) else (if x3 < x11 then (some x11) else (if x3 > x12 then (some x12) else (some x3)))
def spec_Steady.j2 : Nat → List (S109) → Int → Int → Int → Int → Int → Bool → List (S96) → Int → Int → List (S96) → Int → Int → Int → Int → Int → Int → Option (Int)
  | 0, _, _, _, _, _, _, _, _, _, _, _, _, _, _, _, _, _ => none
  | k + 1, x1, x2, x3, x11, x12, x13, x69, x475000, x475001, x475002, x475003, x475004, x475005, x475006, x475007, x482000, x482001 => if x69 = true then (if x482000 > (wrap64 (x2 - x475005)) then (if x482000 ≤ x2 then (if x482001 > x12 then (spec_Steady.l0 k x1 x2 x3 x482001 x482001 (wrap64 (x13 + 1)) x475000 x475001 x475002 x475003 x475004 x475005 x475006 x475007) else (spec_Steady.l0 k x1 x2 x3 x482001 x12 (wrap64 (x13 + 1)) x475000 x475001 x475002 x475003 x475004 x475005 x475006 x475007)) else (spec_Steady.l0 k x1 x2 x3 x482001 x12 (wrap64 (x13 + 1)) x475000 x475001 x475002 x475003 x475004 x475005 x475006 x475007)) else (spec_Steady.l0 k x1 x2 x3 x482001 x12 (wrap64 (x13 + 1)) x475000 x475001 x475002 x475003 x475004 x475005 x475006 x475007)) else (if x482000 > (wrap64 (x2 - x475005)) then (if x482000 ≤ x2 then (if x482001 > x12 then (spec_Steady.l0 k x1 x2 x3 x11 x482001 (wrap64 (x13 + 1)) x475000 x475001 x475002 x475003 x475004 x475005 x475006 x475007) else (spec_Steady.l0 k x1 x2 x3 x11 x12 (wrap64 (x13 + 1)) x475000 x475001 x475002 x475003 x475004 x475005 x475006 x475007)) else (spec_Steady.l0 k x1 x2 x3 x11 x12 (wrap64 (x13 + 1)) x475000 x475001 x475002 x475003 x475004 x475005 x475006 x475007)) else (spec_Steady.l0 k x1 x2 x3 x11 x12 (wrap64 (x13 + 1)) x475000 x475001 x475002 x475003 x475004 x475005 x475006 x475007))
end
def spec_Steady.f (k : Nat) (l0_0 : List (S96)) (a0_1 : Int) (a0_2 : Int) (l0_3 : List (S96)) (a0_4 : Int) (a0_5 : Int) (a0_6 : Int) (a0_7 : Int) (l1 : List (S109)) (a2 : Int) (a3 : Int) (a4 : Int) : Option (Int) := (spec_BehaveOk.f k l0_0 a0_1 a0_2 l0_3 a0_4 a0_5 a0_6 a0_7).bind fun t475 => (if t475 = true then ((spec_NotesOk.f k l1).bind fun t476 => (if t476 = true then ((spec_l02Tick.f a2).bind fun t477 => (if t477 = true then ((spec_l05Count.f a3).bind fun t478 => (if t478 = true then ((spec_l05Count.f a4).bind fun t479 => (spec_Steady.j0 k l1 a2 a3 a4 (!t479) l0_0 a0_1 a0_2 l0_3 a0_4 a0_5 a0_6 a0_7)) else (spec_Steady.j0 k l1 a2 a3 a4 true l0_0 a0_1 a0_2 l0_3 a0_4 a0_5 a0_6 a0_7))) else (spec_Steady.j0 k l1 a2 a3 a4 true l0_0 a0_1 a0_2 l0_3 a0_4 a0_5 a0_6 a0_7))) else (spec_Steady.j0 k l1 a2 a3 a4 true l0_0 a0_1 a0_2 l0_3 a0_4 a0_5 a0_6 a0_7))) else (spec_Steady.j0 k l1 a2 a3 a4 true l0_0 a0_1 a0_2 l0_3 a0_4 a0_5 a0_6 a0_7))
theorem spec_Steady.mono_l : ∀ k, (∀ y0 y1 y2 y3 y4 y5 y6 y7 y8 y9 y10 y11 y12, LeO (spec_Steady.j0 k y0 y1 y2 y3 y4 y5 y6 y7 y8 y9 y10 y11 y12) (spec_Steady.j0 (k + 1) y0 y1 y2 y3 y4 y5 y6 y7 y8 y9 y10 y11 y12)) ∧ (∀ y0 y1 y2 y3 y4 y5 y6 y7 y8 y9 y10 y11 y12 y13, LeO (spec_Steady.l0 k y0 y1 y2 y3 y4 y5 y6 y7 y8 y9 y10 y11 y12 y13) (spec_Steady.l0 (k + 1) y0 y1 y2 y3 y4 y5 y6 y7 y8 y9 y10 y11 y12 y13)) ∧ (∀ y0 y1 y2 y3 y4 y5 y6 y7 y8 y9 y10 y11 y12 y13 y14 y15 y16, LeO (spec_Steady.j2 k y0 y1 y2 y3 y4 y5 y6 y7 y8 y9 y10 y11 y12 y13 y14 y15 y16) (spec_Steady.j2 (k + 1) y0 y1 y2 y3 y4 y5 y6 y7 y8 y9 y10 y11 y12 y13 y14 y15 y16))
  | 0 => ⟨fun _ _ _ _ _ _ _ _ _ _ _ _ _ r h => by simp [spec_Steady.j0] at h, fun _ _ _ _ _ _ _ _ _ _ _ _ _ _ r h => by simp [spec_Steady.l0] at h, fun _ _ _ _ _ _ _ _ _ _ _ _ _ _ _ _ _ r h => by simp [spec_Steady.j2] at h⟩
  | k + 1 => by
    obtain ⟨ih0, ih1, ih2⟩ := spec_Steady.mono_l k
    refine ⟨?_, ?_, ?_⟩
    · intro y0 y1 y2 y3 y4 y5 y6 y7 y8 y9 y10 y11 y12
      unfold spec_Steady.j0
      repeat' with_reducible first | exact ih0 _ _ _ _ _ _ _ _ _ _ _ _ _ | exact ih1 _ _ _ _ _ _ _ _ _ _ _ _ _ _ | exact ih2 _ _ _ _ _ _ _ _ _ _ _ _ _ _ _ _ _ | exact spec_BehaveOk.mono _ _ _ _ _ _ _ _ _ | exact spec_NotesOk.mono _ _ | exact LeO.refl _ | exact LeO.none _ | refine LeO.ite ?_ ?_ | refine LeO.bind ?_ (fun _ => ?_)
    · intro y0 y1 y2 y3 y4 y5 y6 y7 y8 y9 y10 y11 y12 y13
      unfold spec_Steady.l0
      repeat' with_reducible first | exact ih0 _ _ _ _ _ _ _ _ _ _ _ _ _ | exact ih1 _ _ _ _ _ _ _ _ _ _ _ _ _ _ | exact ih2 _ _ _ _ _ _ _ _ _ _ _ _ _ _ _ _ _ | exact spec_BehaveOk.mono _ _ _ _ _ _ _ _ _ | exact spec_NotesOk.mono _ _ | exact LeO.refl _ | exact LeO.none _ | refine LeO.ite ?_ ?_ | refine LeO.bind ?_ (fun _ => ?_)
    · intro y0 y1 y2 y3 y4 y5 y6 y7 y8 y9 y10 y11 y12 y13 y14 y15 y16
      unfold spec_Steady.j2
      repeat' with_reducible first | exact ih0 _ _ _ _ _ _ _ _ _ _ _ _ _ | exact ih1 _ _ _ _ _ _ _ _ _ _ _ _ _ _ | exact ih2 _ _ _ _ _ _ _ _ _ _ _ _ _ _ _ _ _ | exact spec_BehaveOk.mono _ _ _ _ _ _ _ _ _ | exact spec_NotesOk.mono _ _ | exact LeO.refl _ | exact LeO.none _ | refine LeO.ite ?_ ?_ | refine LeO.bind ?_ (fun _ => ?_)
theorem spec_Steady.mono : ∀ a0 a1 a2 a3 a4 a5 a6 a7 a8 a9 a10 a11 k, LeO (spec_Steady.f k a0 a1 a2 a3 a4 a5 a6 a7 a8 a9 a10 a11) (spec_Steady.f (k + 1) a0 a1 a2 a3 a4 a5 a6 a7 a8 a9 a10 a11) := by
  intro a0 a1 a2 a3 a4 a5 a6 a7 a8 a9 a10 a11 k
  obtain ⟨ih0, ih1, ih2⟩ := spec_Steady.mono_l k
  unfold spec_Steady.f
  repeat' with_reducible first | exact ih0 _ _ _ _ _ _ _ _ _ _ _ _ _ | exact ih1 _ _ _ _ _ _ _ _ _ _ _ _ _ _ | exact ih2 _ _ _ _ _ _ _ _ _ _ _ _ _ _ _ _ _ | exact spec_BehaveOk.mono _ _ _ _ _ _ _ _ _ | exact spec_NotesOk.mono _ _ | exact LeO.refl _ | exact LeO.none _ | refine LeO.ite ?_ ?_ | refine LeO.bind ?_ (fun _ => ?_)
set_option maxHeartbeats 8000000 in
set_option maxRecDepth 100000 in
theorem spec_Steady.calls (k : Nat) (A0_0 : Option Addr) (c0_0 : Nat) (l0_0 : List (S96)) (a0_1 : Int) (a0_2 : Int) (A0_3 : Option Addr) (c0_3 : Nat) (l0_3 : List (S96)) (a0_4 : Int) (a0_5 : Int) (a0_6 : Int) (a0_7 : Int) (A1 : Option Addr) (c1 : Nat) (l1 : List (S109)) (a2 : Int) (a3 : Int) (a4 : Int) (r : Int) (w : World) (hr0_0 : Kd.C k96 w A0_0 l0_0.length l0_0) (hc0_0 : l0_0.length ≤ c0_0) (hr0_3 : Kd.C k96 w A0_3 l0_3.length l0_3) (hc0_3 : l0_3.length ≤ c0_3) (hr1 : Kd.C k109 w A1 l1.length l1) (hc1 : l1.length ≤ c1) (h : spec_Steady.f k l0_0 a0_1 a0_2 l0_3 a0_4 a0_5 a0_6 a0_7 l1 a2 a3 a4 = some r) :
  Calls Try.prog 49 #[.agg #[.slice A0_0 l0_0.length c0_0, .int .i64 a0_1, .int .i64 a0_2, .slice A0_3 l0_3.length c0_3, .int .i64 a0_4, .int .i64 a0_5, .int .i64 a0_6, .int .i64 a0_7], .slice A1 l1.length c1, .int .i64 a2, .int .i64 a3, .int .i64 a4] w fun e w' => e = .returned (.int .i64 r) ∧ Below w.heap.size w w' := by
 have hu35 := Try.underlying35
 have hu109 := Try.underlying109
 have HR0_0 := ak_ hr0_0
 have HC0_0 := ak_ hc0_0
 clear hr0_0 hc0_0
 have HR0_3 := ak_ hr0_3
 have HC0_3 := ak_ hc0_3
 clear hr0_3 hc0_3
 have HR1 := ak_ hr1
 have HC1 := ak_ hc1
 clear hr1 hc1
 have HB := ak_ (Below.refl w.heap.size w)
 have H : ((spec_BehaveOk.f k l0_0 a0_1 a0_2 l0_3 a0_4 a0_5 a0_6 a0_7).bind fun t475 => (if t475 = true then ((spec_NotesOk.f k l1).bind fun t476 => (if t476 = true then ((spec_l02Tick.f a2).bind fun t477 => (if t477 = true then ((spec_l05Count.f a3).bind fun t478 => (if t478 = true then ((spec_l05Count.f a4).bind fun t479 => (spec_Steady.j0 k l1 a2 a3 a4 (!t479) l0_0 a0_1 a0_2 l0_3 a0_4 a0_5 a0_6 a0_7)) else (spec_Steady.j0 k l1 a2 a3 a4 true l0_0 a0_1 a0_2 l0_3 a0_4 a0_5 a0_6 a0_7))) else (spec_Steady.j0 k l1 a2 a3 a4 true l0_0 a0_1 a0_2 l0_3 a0_4 a0_5 a0_6 a0_7))) else (spec_Steady.j0 k l1 a2 a3 a4 true l0_0 a0_1 a0_2 l0_3 a0_4 a0_5 a0_6 a0_7))) else (spec_Steady.j0 k l1 a2 a3 a4 true l0_0 a0_1 a0_2 l0_3 a0_4 a0_5 a0_6 a0_7))) = some r := h
 clear h
 have HC6 := ak_ H
 clear H
 go_enter Try.func49, Try.ntmps49
 go_upto_region 1 with (first | ((with_reducible refine gate_dst (N := 5) rfl ?_); refine be_ (N := 5) (cs := #[.slice A0_0 l0_0.length c0_0, .int .i64 a0_1, .int .i64 a0_2, .slice A0_3 l0_3.length c0_3, .int .i64 a0_4, .int .i64 a0_5, .int .i64 a0_6, .int .i64 a0_7]) (t := 35) ?_; intro gb474 hg w7 hbox hb; have BK474 := ak_ hbox; have GW474 := ak_ ((gs_ hg : w.heap.size ≤ gb474)); have GE474 := ak_ ((gs_ hg : w.heap.size ≤ gb474)); replace HB := ak_ (below_step hb_ hb); clear hb hbox hg))
 (try simp only [Act.put, List.setIfInBounds_toArray, List.set_cons_zero, List.set_cons_succ])
 go_cut [37] (fun v37 wc => ∃ (kq : Nat) (x37_5 : Bool), v37 = .bool x37_5 ∧ Aside0 (spec_Steady.j0 kq l1 a2 a3 a4 x37_5 l0_0 a0_1 a0_2 l0_3 a0_4 a0_5 a0_6 a0_7 = some r) ∧ Aside0 (kq ≤ k) ∧ Aside0 (wc.heap[gb474]? = some (.cells #[(.slice A0_0 l0_0.length c0_0), .int .i64 a0_1, .int .i64 a0_2, (.slice A0_3 l0_3.length c0_3), .int .i64 a0_4, .int .i64 a0_5, .int .i64 a0_6, .int .i64 a0_7] 35 (0, 0))) ∧ Aside0 (Below w.heap.size w wc))
 case first =>
  have H := HC6.out
  clear HC6
  replace H := Option.bind_eq_some_iff.mp H
  obtain ⟨t475, A80, H⟩ := H
  replace H : (if t475 = true then ((spec_NotesOk.f k l1).bind fun t476 => (if t476 = true then ((spec_l02Tick.f a2).bind fun t477 => (if t477 = true then ((spec_l05Count.f a3).bind fun t478 => (if t478 = true then ((spec_l05Count.f a4).bind fun t479 => (spec_Steady.j0 k l1 a2 a3 a4 (!t479) l0_0 a0_1 a0_2 l0_3 a0_4 a0_5 a0_6 a0_7)) else (spec_Steady.j0 k l1 a2 a3 a4 true l0_0 a0_1 a0_2 l0_3 a0_4 a0_5 a0_6 a0_7))) else (spec_Steady.j0 k l1 a2 a3 a4 true l0_0 a0_1 a0_2 l0_3 a0_4 a0_5 a0_6 a0_7))) else (spec_Steady.j0 k l1 a2 a3 a4 true l0_0 a0_1 a0_2 l0_3 a0_4 a0_5 a0_6 a0_7))) else (spec_Steady.j0 k l1 a2 a3 a4 true l0_0 a0_1 a0_2 l0_3 a0_4 a0_5 a0_6 a0_7)) = some r := H
  have A8 := ak_ A80
  clear A80
  by_cases c9 : t475 = true
  ·subst c9
   rw [if_pos rfl] at H
   replace H := Option.bind_eq_some_iff.mp H
   obtain ⟨t476, A100, H⟩ := H
   replace H : (if t476 = true then ((spec_l02Tick.f a2).bind fun t477 => (if t477 = true then ((spec_l05Count.f a3).bind fun t478 => (if t478 = true then ((spec_l05Count.f a4).bind fun t479 => (spec_Steady.j0 k l1 a2 a3 a4 (!t479) l0_0 a0_1 a0_2 l0_3 a0_4 a0_5 a0_6 a0_7)) else (spec_Steady.j0 k l1 a2 a3 a4 true l0_0 a0_1 a0_2 l0_3 a0_4 a0_5 a0_6 a0_7))) else (spec_Steady.j0 k l1 a2 a3 a4 true l0_0 a0_1 a0_2 l0_3 a0_4 a0_5 a0_6 a0_7))) else (spec_Steady.j0 k l1 a2 a3 a4 true l0_0 a0_1 a0_2 l0_3 a0_4 a0_5 a0_6 a0_7)) = some r := H
   have A10 := ak_ A100
   clear A100
   by_cases c11 : t476 = true
   ·subst c11
    rw [if_pos rfl] at H
    replace H := Option.bind_eq_some_iff.mp H
    obtain ⟨t477, A120, H⟩ := H
    replace H : (if t477 = true then ((spec_l05Count.f a3).bind fun t478 => (if t478 = true then ((spec_l05Count.f a4).bind fun t479 => (spec_Steady.j0 k l1 a2 a3 a4 (!t479) l0_0 a0_1 a0_2 l0_3 a0_4 a0_5 a0_6 a0_7)) else (spec_Steady.j0 k l1 a2 a3 a4 true l0_0 a0_1 a0_2 l0_3 a0_4 a0_5 a0_6 a0_7))) else (spec_Steady.j0 k l1 a2 a3 a4 true l0_0 a0_1 a0_2 l0_3 a0_4 a0_5 a0_6 a0_7)) = some r := H
    have A12 := ak_ A120
    clear A120
    by_cases c13 : t477 = true
    ·subst c13
     rw [if_pos rfl] at H
     replace H := Option.bind_eq_some_iff.mp H
     obtain ⟨t478, A140, H⟩ := H
     replace H : (if t478 = true then ((spec_l05Count.f a4).bind fun t479 => (spec_Steady.j0 k l1 a2 a3 a4 (!t479) l0_0 a0_1 a0_2 l0_3 a0_4 a0_5 a0_6 a0_7)) else (spec_Steady.j0 k l1 a2 a3 a4 true l0_0 a0_1 a0_2 l0_3 a0_4 a0_5 a0_6 a0_7)) = some r := H
     have A14 := ak_ A140
     clear A140
     by_cases c15 : t478 = true
     ·subst c15
      rw [if_pos rfl] at H
      replace H := Option.bind_eq_some_iff.mp H
      obtain ⟨t479, A160, H⟩ := H
      replace H : (spec_Steady.j0 k l1 a2 a3 a4 (!t479) l0_0 a0_1 a0_2 l0_3 a0_4 a0_5 a0_6 a0_7) = some r := H
      have A16 := ak_ A160
      clear A160
      have H' := ak_ H
      clear H
      obtain ⟨hcz17_0, hcz17_1, hcz17_2, hcz17_3, hcz17_4, hcz17_5, hcz17_6, hcz17_7, hfz17_0, hfz17_1, hfz17_2, hfz17_3, hfz17_4, hfz17_5, hfz17_6, hfz17_7⟩ := bc8_ BK474.out
      go_wp2_with (first | ((with_reducible refine gate_callee (f := 41) rfl ?_); refine goesL_ (some 16) rfl rfl Try.func41 (by kernel_rfl) rfl #[.agg #[.slice A0_0 l0_0.length c0_0, .int .i64 a0_1, .int .i64 a0_2, .slice A0_3 l0_3.length c0_3, .int .i64 a0_4, .int .i64 a0_5, .int .i64 a0_6, .int .i64 a0_7]] rfl (ma1_ rfl) ?_; (with_reducible refine (spec_BehaveOk.calls k _ _ l0_0 a0_1 a0_2 _ _ l0_3 a0_4 a0_5 a0_6 a0_7 true _ ?side1 ?side2 ?side3 ?side4 A8.out).mono ?_); (case side1 => exact kc_ HR0_0); (case side2 => exact HC0_0.out); (case side3 => exact kc_ HR0_3); (case side4 => exact HC0_3.out); rintro e w18 ⟨rfl, hb⟩; refine ⟨_, rfl, ?_⟩; replace BK474 := ak_ (blk_below (bk_ BK474) hb); replace HB := ak_ (below_step hb_ hb); (try clear hb)) | (go_at_call 84; (with_reducible refine (spec_NotesOk.calls k _ _ l1 true _ ?side1 ?side2 A10.out).mono ?_); (case side1 => exact kc_ HR1); (case side2 => exact HC1.out); rintro e w19 ⟨rfl, hb⟩; replace BK474 := ak_ (blk_below (bk_ BK474) hb); replace HB := ak_ (below_step hb_ hb); (try clear hb)) | (go_at_call 79; (with_reducible refine (spec_l02Tick.calls a2 true _ A12.out).mono ?_); rintro e w' ⟨rfl, ⟨nd, rfl⟩⟩) | (go_at_call 89; (with_reducible refine (spec_l05Count.calls a3 true _ A14.out).mono ?_); rintro e w' ⟨rfl, ⟨nd, rfl⟩⟩) | (go_at_call 89; (with_reducible refine (spec_l05Count.calls a4 t479 _ A16.out).mono ?_); rintro e w' ⟨rfl, ⟨nd, rfl⟩⟩))
      go_meet
      case rel => exact ⟨_, (!t479), (by first | rfl | (simp; done) | (simp [*]; done)), H', ⟨by first | omega | exact Nat.le_refl _⟩, ⟨by (with_reducible repeat (first | refine kn_ ?_ _ | refine kd_ ?_ | refine ka_ ?_ _)); exact BK474.out⟩, ⟨hb_⟩⟩
     ·replace c15 := Bool.eq_false_iff.mpr c15
      subst c15
      rw [if_neg (show ¬ (false = true) by decide)] at H
      have H' := ak_ H
      clear H
      obtain ⟨hcz20_0, hcz20_1, hcz20_2, hcz20_3, hcz20_4, hcz20_5, hcz20_6, hcz20_7, hfz20_0, hfz20_1, hfz20_2, hfz20_3, hfz20_4, hfz20_5, hfz20_6, hfz20_7⟩ := bc8_ BK474.out
      go_wp2_with (first | ((with_reducible refine gate_callee (f := 41) rfl ?_); refine goesL_ (some 16) rfl rfl Try.func41 (by kernel_rfl) rfl #[.agg #[.slice A0_0 l0_0.length c0_0, .int .i64 a0_1, .int .i64 a0_2, .slice A0_3 l0_3.length c0_3, .int .i64 a0_4, .int .i64 a0_5, .int .i64 a0_6, .int .i64 a0_7]] rfl (ma1_ rfl) ?_; (with_reducible refine (spec_BehaveOk.calls k _ _ l0_0 a0_1 a0_2 _ _ l0_3 a0_4 a0_5 a0_6 a0_7 true _ ?side1 ?side2 ?side3 ?side4 A8.out).mono ?_); (case side1 => exact kc_ HR0_0); (case side2 => exact HC0_0.out); (case side3 => exact kc_ HR0_3); (case side4 => exact HC0_3.out); rintro e w21 ⟨rfl, hb⟩; refine ⟨_, rfl, ?_⟩; replace BK474 := ak_ (blk_below (bk_ BK474) hb); replace HB := ak_ (below_step hb_ hb); (try clear hb)) | (go_at_call 84; (with_reducible refine (spec_NotesOk.calls k _ _ l1 true _ ?side1 ?side2 A10.out).mono ?_); (case side1 => exact kc_ HR1); (case side2 => exact HC1.out); rintro e w22 ⟨rfl, hb⟩; replace BK474 := ak_ (blk_below (bk_ BK474) hb); replace HB := ak_ (below_step hb_ hb); (try clear hb)) | (go_at_call 79; (with_reducible refine (spec_l02Tick.calls a2 true _ A12.out).mono ?_); rintro e w' ⟨rfl, ⟨nd, rfl⟩⟩) | (go_at_call 89; (with_reducible refine (spec_l05Count.calls a3 false _ A14.out).mono ?_); rintro e w' ⟨rfl, ⟨nd, rfl⟩⟩))
      go_meet
      case rel => exact ⟨_, (true), (by first | rfl | (simp; done) | (simp [*]; done)), H', ⟨by first | omega | exact Nat.le_refl _⟩, ⟨by (with_reducible repeat (first | refine kn_ ?_ _ | refine kd_ ?_ | refine ka_ ?_ _)); exact BK474.out⟩, ⟨hb_⟩⟩
    ·replace c13 := Bool.eq_false_iff.mpr c13
     subst c13
     rw [if_neg (show ¬ (false = true) by decide)] at H
     have H' := ak_ H
     clear H
     obtain ⟨hcz23_0, hcz23_1, hcz23_2, hcz23_3, hcz23_4, hcz23_5, hcz23_6, hcz23_7, hfz23_0, hfz23_1, hfz23_2, hfz23_3, hfz23_4, hfz23_5, hfz23_6, hfz23_7⟩ := bc8_ BK474.out
     go_wp2_with (first | ((with_reducible refine gate_callee (f := 41) rfl ?_); refine goesL_ (some 16) rfl rfl Try.func41 (by kernel_rfl) rfl #[.agg #[.slice A0_0 l0_0.length c0_0, .int .i64 a0_1, .int .i64 a0_2, .slice A0_3 l0_3.length c0_3, .int .i64 a0_4, .int .i64 a0_5, .int .i64 a0_6, .int .i64 a0_7]] rfl (ma1_ rfl) ?_; (with_reducible refine (spec_BehaveOk.calls k _ _ l0_0 a0_1 a0_2 _ _ l0_3 a0_4 a0_5 a0_6 a0_7 true _ ?side1 ?side2 ?side3 ?side4 A8.out).mono ?_); (case side1 => exact kc_ HR0_0); (case side2 => exact HC0_0.out); (case side3 => exact kc_ HR0_3); (case side4 => exact HC0_3.out); rintro e w24 ⟨rfl, hb⟩; refine ⟨_, rfl, ?_⟩; replace BK474 := ak_ (blk_below (bk_ BK474) hb); replace HB := ak_ (below_step hb_ hb); (try clear hb)) | (go_at_call 84; (with_reducible refine (spec_NotesOk.calls k _ _ l1 true _ ?side1 ?side2 A10.out).mono ?_); (case side1 => exact kc_ HR1); (case side2 => exact HC1.out); rintro e w25 ⟨rfl, hb⟩; replace BK474 := ak_ (blk_below (bk_ BK474) hb); replace HB := ak_ (below_step hb_ hb); (try clear hb)) | (go_at_call 79; (with_reducible refine (spec_l02Tick.calls a2 false _ A12.out).mono ?_); rintro e w' ⟨rfl, ⟨nd, rfl⟩⟩))
     go_meet
     case rel => exact ⟨_, (true), (by first | rfl | (simp; done) | (simp [*]; done)), H', ⟨by first | omega | exact Nat.le_refl _⟩, ⟨by (with_reducible repeat (first | refine kn_ ?_ _ | refine kd_ ?_ | refine ka_ ?_ _)); exact BK474.out⟩, ⟨hb_⟩⟩
   ·replace c11 := Bool.eq_false_iff.mpr c11
    subst c11
    rw [if_neg (show ¬ (false = true) by decide)] at H
    have H' := ak_ H
    clear H
    obtain ⟨hcz26_0, hcz26_1, hcz26_2, hcz26_3, hcz26_4, hcz26_5, hcz26_6, hcz26_7, hfz26_0, hfz26_1, hfz26_2, hfz26_3, hfz26_4, hfz26_5, hfz26_6, hfz26_7⟩ := bc8_ BK474.out
    go_wp2_with (first | ((with_reducible refine gate_callee (f := 41) rfl ?_); refine goesL_ (some 16) rfl rfl Try.func41 (by kernel_rfl) rfl #[.agg #[.slice A0_0 l0_0.length c0_0, .int .i64 a0_1, .int .i64 a0_2, .slice A0_3 l0_3.length c0_3, .int .i64 a0_4, .int .i64 a0_5, .int .i64 a0_6, .int .i64 a0_7]] rfl (ma1_ rfl) ?_; (with_reducible refine (spec_BehaveOk.calls k _ _ l0_0 a0_1 a0_2 _ _ l0_3 a0_4 a0_5 a0_6 a0_7 true _ ?side1 ?side2 ?side3 ?side4 A8.out).mono ?_); (case side1 => exact kc_ HR0_0); (case side2 => exact HC0_0.out); (case side3 => exact kc_ HR0_3); (case side4 => exact HC0_3.out); rintro e w27 ⟨rfl, hb⟩; refine ⟨_, rfl, ?_⟩; replace BK474 := ak_ (blk_below (bk_ BK474) hb); replace HB := ak_ (below_step hb_ hb); (try clear hb)) | (go_at_call 84; (with_reducible refine (spec_NotesOk.calls k _ _ l1 false _ ?side1 ?side2 A10.out).mono ?_); (case side1 => exact kc_ HR1); (case side2 => exact HC1.out); rintro e w28 ⟨rfl, hb⟩; replace BK474 := ak_ (blk_below (bk_ BK474) hb); replace HB := ak_ (below_step hb_ hb); (try clear hb)))
    go_meet
    case rel => exact ⟨_, (true), (by first | rfl | (simp; done) | (simp [*]; done)), H', ⟨by first | omega | exact Nat.le_refl _⟩, ⟨by (with_reducible repeat (first | refine kn_ ?_ _ | refine kd_ ?_ | refine ka_ ?_ _)); exact BK474.out⟩, ⟨hb_⟩⟩
  ·replace c9 := Bool.eq_false_iff.mpr c9
   subst c9
   rw [if_neg (show ¬ (false = true) by decide)] at H
   have H' := ak_ H
   clear H
   obtain ⟨hcz29_0, hcz29_1, hcz29_2, hcz29_3, hcz29_4, hcz29_5, hcz29_6, hcz29_7, hfz29_0, hfz29_1, hfz29_2, hfz29_3, hfz29_4, hfz29_5, hfz29_6, hfz29_7⟩ := bc8_ BK474.out
   go_wp2_with (first | ((with_reducible refine gate_callee (f := 41) rfl ?_); refine goesL_ (some 16) rfl rfl Try.func41 (by kernel_rfl) rfl #[.agg #[.slice A0_0 l0_0.length c0_0, .int .i64 a0_1, .int .i64 a0_2, .slice A0_3 l0_3.length c0_3, .int .i64 a0_4, .int .i64 a0_5, .int .i64 a0_6, .int .i64 a0_7]] rfl (ma1_ rfl) ?_; (with_reducible refine (spec_BehaveOk.calls k _ _ l0_0 a0_1 a0_2 _ _ l0_3 a0_4 a0_5 a0_6 a0_7 false _ ?side1 ?side2 ?side3 ?side4 A8.out).mono ?_); (case side1 => exact kc_ HR0_0); (case side2 => exact HC0_0.out); (case side3 => exact kc_ HR0_3); (case side4 => exact HC0_3.out); rintro e w30 ⟨rfl, hb⟩; refine ⟨_, rfl, ?_⟩; replace BK474 := ak_ (blk_below (bk_ BK474) hb); replace HB := ak_ (below_step hb_ hb); (try clear hb)))
   go_meet
   case rel => exact ⟨_, (true), (by first | rfl | (simp; done) | (simp [*]; done)), H', ⟨by first | omega | exact Nat.le_refl _⟩, ⟨by (with_reducible repeat (first | refine kn_ ?_ _ | refine kd_ ?_ | refine ka_ ?_ _)); exact BK474.out⟩, ⟨hb_⟩⟩
 case rest =>
  clear HC6
  try clear c1
  try clear p2
  try clear c4
  try clear c9
  try clear c11
  try clear c13
  try clear c15
  (try clear hcz17_0 hcz17_1 hcz17_2 hcz17_3 hcz17_4 hcz17_5 hcz17_6 hcz17_7 hfz17_0 hfz17_1 hfz17_2 hfz17_3 hfz17_4 hfz17_5 hfz17_6 hfz17_7); (try clear hcz20_0 hcz20_1 hcz20_2 hcz20_3 hcz20_4 hcz20_5 hcz20_6 hcz20_7 hfz20_0 hfz20_1 hfz20_2 hfz20_3 hfz20_4 hfz20_5 hfz20_6 hfz20_7); (try clear hcz23_0 hcz23_1 hcz23_2 hcz23_3 hcz23_4 hcz23_5 hcz23_6 hcz23_7 hfz23_0 hfz23_1 hfz23_2 hfz23_3 hfz23_4 hfz23_5 hfz23_6 hfz23_7); (try clear hcz26_0 hcz26_1 hcz26_2 hcz26_3 hcz26_4 hcz26_5 hcz26_6 hcz26_7 hfz26_0 hfz26_1 hfz26_2 hfz26_3 hfz26_4 hfz26_5 hfz26_6 hfz26_7); (try clear hcz29_0 hcz29_1 hcz29_2 hcz29_3 hcz29_4 hcz29_5 hcz29_6 hcz29_7 hfz29_0 hfz29_1 hfz29_2 hfz29_3 hfz29_4 hfz29_5 hfz29_6 hfz29_7)
  obtain ⟨kq, x37_5, rfl, HA, HJ5, BK474, HB⟩ := hcut
  cases kq with
  | zero => exact absurd HA.out (by simp [spec_Steady.j0])
  | succ kj5 =>
   have H := HA.out
   clear HA
   simp only [spec_Steady.j0] at H
   by_cases c31 : x37_5 = true
   ·subst c31
    rw [if_pos rfl] at H
    obtain rfl := Option.some.inj H
    go_wp2
    go_ret
    exact ⟨ew_, hb_⟩
   ·replace c31 := Bool.eq_false_iff.mpr c31
    subst c31
    rw [if_neg (show ¬ (false = true) by decide)] at H
    have H' := ak_ H
    clear H
    go_wp2
    go_loopg [11, 12, 13] kj5 (fun kq v11 v12 v13 w' => ∃ (x11_2 : Int) (x12_2 : Int) (x13_2 : Int), v11 = .int .i64 x11_2 ∧ v12 = .int .i64 x12_2 ∧ v13 = .int .i64 x13_2 ∧ Aside0 (spec_Steady.l0 kq l1 a2 a3 x11_2 x12_2 x13_2 l0_0 a0_1 a0_2 l0_3 a0_4 a0_5 a0_6 a0_7 = some r) ∧ Aside0 (kq ≤ kj5) ∧ Aside0 (w'.heap[gb474]? = some (.cells #[(.slice A0_0 l0_0.length c0_0), .int .i64 a0_1, .int .i64 a0_2, (.slice A0_3 l0_3.length c0_3), .int .i64 a0_4, .int .i64 a0_5, .int .i64 a0_6, .int .i64 a0_7] 35 (0, 0))) ∧ Aside0 (Below w.heap.size w w'))
    case atStart => exact ⟨(a4), (a4), (0), (by first | rfl | (simp; done) | (simp [*]; done)), (by first | rfl | (simp; done) | (simp [*]; done)), (by first | rfl | (simp; done) | (simp [*]; done)), H', ⟨Nat.le_refl _⟩, ⟨by (with_reducible repeat (first | refine kn_ ?_ _ | refine kd_ ?_ | refine ka_ ?_ _)); exact BK474.out⟩, ⟨hb_⟩⟩
    case round =>
     clear H'
     try clear c1
     try clear p2
     try clear c3
     try clear c4
     try clear c9
     try clear c11
     try clear c13
     try clear c15
     try clear c31
     try clear p2
     (try clear hcz17_0 hcz17_1 hcz17_2 hcz17_3 hcz17_4 hcz17_5 hcz17_6 hcz17_7 hfz17_0 hfz17_1 hfz17_2 hfz17_3 hfz17_4 hfz17_5 hfz17_6 hfz17_7); (try clear hcz20_0 hcz20_1 hcz20_2 hcz20_3 hcz20_4 hcz20_5 hcz20_6 hcz20_7 hfz20_0 hfz20_1 hfz20_2 hfz20_3 hfz20_4 hfz20_5 hfz20_6 hfz20_7); (try clear hcz23_0 hcz23_1 hcz23_2 hcz23_3 hcz23_4 hcz23_5 hcz23_6 hcz23_7 hfz23_0 hfz23_1 hfz23_2 hfz23_3 hfz23_4 hfz23_5 hfz23_6 hfz23_7); (try clear hcz26_0 hcz26_1 hcz26_2 hcz26_3 hcz26_4 hcz26_5 hcz26_6 hcz26_7 hfz26_0 hfz26_1 hfz26_2 hfz26_3 hfz26_4 hfz26_5 hfz26_6 hfz26_7); (try clear hcz29_0 hcz29_1 hcz29_2 hcz29_3 hcz29_4 hcz29_5 hcz29_6 hcz29_7 hfz29_0 hfz29_1 hfz29_2 hfz29_3 hfz29_4 hfz29_5 hfz29_6 hfz29_7)
     obtain ⟨x11_2, x12_2, x13_2, rfl, rfl, rfl, HA, HK2, BK474, HB⟩ := hrel
     cases gk with
     | zero => exact absurd HA.out (by simp [spec_Steady.l0])
     | succ k2 =>
      have H := HA.out
      clear HA
      simp only [spec_Steady.l0] at H
      by_cases c32 : x13_2 < (l1.length : Int)
      ·rw [if_pos c32] at H
       have c32b0 : decide (x13_2 < (l1.length : Int)) = true := decide_eq_true c32
       clear c32
       by_cases c33 : 0 ≤ x13_2
       ·rw [if_pos c33] at H
        have c33b0 : decide (0 ≤ x13_2) = true := decide_eq_true c33
        clear c33
        have HC34 := ak_ H
        clear H
        have p480 : 0 ≤ (x13_2 : Int) := of_decide_eq_true (by first | (with_reducible assumption) | assumption)
        have q480 : x13_2 < (l1.length : Int) := of_decide_eq_true (by first | (with_reducible assumption) | assumption)
        obtain ⟨ad480, e480, hx480_0, hx480_1⟩ := at_T109 HR1.out x13_2 p480 q480
        cases e480
        replace hx480_0 := cx_ HB hx480_0
        replace hx480_1 := cx_ HB hx480_1
        replace p480 := eq_true p480
        replace q480 := eq_true q480
        go_upto_region 9 with (first | ((with_reducible refine gate_dst (N := 14) rfl ?_); refine be_ (N := 14) (cs := #[.int .i64 0, .int .i64 0]) (t := 109) ?_; intro gb481 hg w35 hbox hb; have BK481 := ak_ hbox; have GW481 := ak_ ((gs_ hg : w.heap.size ≤ gb481)); have GE481 := ak_ ((gs_ hg : w.heap.size ≤ gb481)); replace HB := ak_ (below_step hb_ hb); have NB474_481 := ak_ (nl_ hg (bk_ BK474)); have NB481_474 := ak_ (ng_ hg (bk_ BK474)); replace BK474 := ak_ (blk_below (bk_ BK474) hb); clear hb hbox hg; have hnb36 := NB481_474.out; have hnc36 := NB474_481.out; obtain ⟨hcz37_0, hcz37_1, hfz37_0, hfz37_1⟩ := bc2_ BK481.out))
        (try simp only [Act.put, List.setIfInBounds_toArray, List.set_cons_zero, List.set_cons_succ])
        go_cut [69] (fun v69 wc => ∃ (kq : Nat) (x69_33 : Bool), v69 = .bool x69_33 ∧ Aside0 (spec_Steady.j2 kq l1 a2 a3 x11_2 x12_2 x13_2 x69_33 l0_0 a0_1 a0_2 l0_3 a0_4 a0_5 a0_6 a0_7 ((rd_T109 l1 x13_2).f0) ((rd_T109 l1 x13_2).f1) = some r) ∧ Aside0 (kq ≤ k2) ∧ Aside0 (wc.heap[gb474]? = some (.cells #[(.slice A0_0 l0_0.length c0_0), .int .i64 a0_1, .int .i64 a0_2, (.slice A0_3 l0_3.length c0_3), .int .i64 a0_4, .int .i64 a0_5, .int .i64 a0_6, .int .i64 a0_7] 35 (0, 0))) ∧ Aside0 (wc.heap[gb481]? = some (.cells #[.int .i64 ((rd_T109 l1 x13_2).f0), .int .i64 ((rd_T109 l1 x13_2).f1)] 109 (0, 0))) ∧ Aside0 (Below w.heap.size w wc))
        case first =>
         have H := HC34.out
         clear HC34
         by_cases c38 : ((rd_T109 l1 x13_2).f0) > (wrap64 (a2 - a0_2))
         ·rw [if_pos c38] at H
          have c38b0 : decide ((wrap64 (a2 - a0_2)) < ((rd_T109 l1 x13_2).f0)) = true := decide_eq_true c38
          clear c38
          (first | rw [c38b0] | (simp only [i64_w, i32_w]; rw [c38b0]) | skip)
          by_cases c39 : ((rd_T109 l1 x13_2).f0) ≤ a2
          ·rw [if_pos c39] at H
           have c39b0 : decide (((rd_T109 l1 x13_2).f0) ≤ a2) = true := decide_eq_true c39
           clear c39
           have H' := ak_ H
           clear H
           have hnb40 := NB481_474.out
           have hnc40 := NB474_481.out
           obtain ⟨hcz41_0, hcz41_1, hfz41_0, hfz41_1⟩ := bc2_ BK481.out
           obtain ⟨hcz42_0, hcz42_1, hcz42_2, hcz42_3, hcz42_4, hcz42_5, hcz42_6, hcz42_7, hfz42_0, hfz42_1, hfz42_2, hfz42_3, hfz42_4, hfz42_5, hfz42_6, hfz42_7⟩ := bc8_ BK474.out
           go_wp2
           go_meet
           case rel => exact ⟨_, (decide (((rd_T109 l1 x13_2).f1) < x11_2)), (by first | rfl | (simp; done) | (simp [*]; done)), H', ⟨by have := HJ5.out; have := HK2.out; first | omega | exact Nat.le_refl _⟩, ⟨by (with_reducible repeat (first | refine kn_ ?_ _ | refine kd_ ?_ | refine ka_ ?_ _)); refine blk_far ?_ NB474_481.out _; (with_reducible repeat (first | refine kn_ ?_ _ | refine kd_ ?_ | refine ka_ ?_ _)); refine blk_far ?_ NB474_481.out _; (with_reducible repeat (first | refine kn_ ?_ _ | refine kd_ ?_ | refine ka_ ?_ _)); exact BK474.out⟩, ⟨by (with_reducible repeat (first | refine kn_ ?_ _ | refine kd_ ?_ | refine ka_ ?_ _)); refine blk_put (cs := #[.int .i64 ((rd_T109 l1 x13_2).f0), .int .i64 0]) ?_ 1 _ rfl; (with_reducible repeat (first | refine kn_ ?_ _ | refine kd_ ?_ | refine ka_ ?_ _)); refine blk_put (cs := #[.int .i64 0, .int .i64 0]) ?_ 0 _ rfl; (with_reducible repeat (first | refine kn_ ?_ _ | refine kd_ ?_ | refine ka_ ?_ _)); exact BK481.out⟩, ⟨hb_⟩⟩
          ·rw [if_neg c39] at H
           have c39b0 : decide (((rd_T109 l1 x13_2).f0) ≤ a2) = false := decide_eq_false c39
           clear c39
           have H' := ak_ H
           clear H
           have hnb43 := NB481_474.out
           have hnc43 := NB474_481.out
           obtain ⟨hcz44_0, hcz44_1, hfz44_0, hfz44_1⟩ := bc2_ BK481.out
           obtain ⟨hcz45_0, hcz45_1, hcz45_2, hcz45_3, hcz45_4, hcz45_5, hcz45_6, hcz45_7, hfz45_0, hfz45_1, hfz45_2, hfz45_3, hfz45_4, hfz45_5, hfz45_6, hfz45_7⟩ := bc8_ BK474.out
           go_wp2
           go_meet
           case rel => exact ⟨_, (false), (by first | rfl | (simp; done) | (simp [*]; done)), H', ⟨by have := HJ5.out; have := HK2.out; first | omega | exact Nat.le_refl _⟩, ⟨by (with_reducible repeat (first | refine kn_ ?_ _ | refine kd_ ?_ | refine ka_ ?_ _)); refine blk_far ?_ NB474_481.out _; (with_reducible repeat (first | refine kn_ ?_ _ | refine kd_ ?_ | refine ka_ ?_ _)); refine blk_far ?_ NB474_481.out _; (with_reducible repeat (first | refine kn_ ?_ _ | refine kd_ ?_ | refine ka_ ?_ _)); exact BK474.out⟩, ⟨by (with_reducible repeat (first | refine kn_ ?_ _ | refine kd_ ?_ | refine ka_ ?_ _)); refine blk_put (cs := #[.int .i64 ((rd_T109 l1 x13_2).f0), .int .i64 0]) ?_ 1 _ rfl; (with_reducible repeat (first | refine kn_ ?_ _ | refine kd_ ?_ | refine ka_ ?_ _)); refine blk_put (cs := #[.int .i64 0, .int .i64 0]) ?_ 0 _ rfl; (with_reducible repeat (first | refine kn_ ?_ _ | refine kd_ ?_ | refine ka_ ?_ _)); exact BK481.out⟩, ⟨hb_⟩⟩
         ·rw [if_neg c38] at H
          have c38b0 : decide ((wrap64 (a2 - a0_2)) < ((rd_T109 l1 x13_2).f0)) = false := decide_eq_false c38
          clear c38
          (first | rw [c38b0] | (simp only [i64_w, i32_w]; rw [c38b0]) | skip)
          have H' := ak_ H
          clear H
          have hnb46 := NB481_474.out
          have hnc46 := NB474_481.out
          obtain ⟨hcz47_0, hcz47_1, hfz47_0, hfz47_1⟩ := bc2_ BK481.out
          obtain ⟨hcz48_0, hcz48_1, hcz48_2, hcz48_3, hcz48_4, hcz48_5, hcz48_6, hcz48_7, hfz48_0, hfz48_1, hfz48_2, hfz48_3, hfz48_4, hfz48_5, hfz48_6, hfz48_7⟩ := bc8_ BK474.out
          go_wp2
          go_meet
          case rel => exact ⟨_, (false), (by first | rfl | (simp; done) | (simp [*]; done)), H', ⟨by have := HJ5.out; have := HK2.out; first | omega | exact Nat.le_refl _⟩, ⟨by (with_reducible repeat (first | refine kn_ ?_ _ | refine kd_ ?_ | refine ka_ ?_ _)); refine blk_far ?_ NB474_481.out _; (with_reducible repeat (first | refine kn_ ?_ _ | refine kd_ ?_ | refine ka_ ?_ _)); refine blk_far ?_ NB474_481.out _; (with_reducible repeat (first | refine kn_ ?_ _ | refine kd_ ?_ | refine ka_ ?_ _)); exact BK474.out⟩, ⟨by (with_reducible repeat (first | refine kn_ ?_ _ | refine kd_ ?_ | refine ka_ ?_ _)); refine blk_put (cs := #[.int .i64 ((rd_T109 l1 x13_2).f0), .int .i64 0]) ?_ 1 _ rfl; (with_reducible repeat (first | refine kn_ ?_ _ | refine kd_ ?_ | refine ka_ ?_ _)); refine blk_put (cs := #[.int .i64 0, .int .i64 0]) ?_ 0 _ rfl; (with_reducible repeat (first | refine kn_ ?_ _ | refine kd_ ?_ | refine ka_ ?_ _)); exact BK481.out⟩, ⟨hb_⟩⟩
        case rest =>
         clear HC34
         try clear c1
         try clear p2
         try clear c3
         try clear c4
         try clear p4
         try clear q4
         try clear hx4
         try clear p6
         try clear c9
         try clear c11
         try clear c13
         try clear c15
         try clear c31
         try clear c32
         try clear c32b0
         try clear c33
         try clear c33b0
         try clear c36
         try clear c38
         try clear c38b0
         try clear c39
         try clear c39b0
         try clear c40
         try clear c41
         try clear c43
         try clear c46
         try clear p48
         try clear q48
         try clear hx48
         try clear hx480_0
         try clear hx480_1
         try clear p2
         try clear p480
         try clear q480
         (try clear hcz17_0 hcz17_1 hcz17_2 hcz17_3 hcz17_4 hcz17_5 hcz17_6 hcz17_7 hfz17_0 hfz17_1 hfz17_2 hfz17_3 hfz17_4 hfz17_5 hfz17_6 hfz17_7); (try clear hcz20_0 hcz20_1 hcz20_2 hcz20_3 hcz20_4 hcz20_5 hcz20_6 hcz20_7 hfz20_0 hfz20_1 hfz20_2 hfz20_3 hfz20_4 hfz20_5 hfz20_6 hfz20_7); (try clear hcz23_0 hcz23_1 hcz23_2 hcz23_3 hcz23_4 hcz23_5 hcz23_6 hcz23_7 hfz23_0 hfz23_1 hfz23_2 hfz23_3 hfz23_4 hfz23_5 hfz23_6 hfz23_7); (try clear hcz26_0 hcz26_1 hcz26_2 hcz26_3 hcz26_4 hcz26_5 hcz26_6 hcz26_7 hfz26_0 hfz26_1 hfz26_2 hfz26_3 hfz26_4 hfz26_5 hfz26_6 hfz26_7); (try clear hcz29_0 hcz29_1 hcz29_2 hcz29_3 hcz29_4 hcz29_5 hcz29_6 hcz29_7 hfz29_0 hfz29_1 hfz29_2 hfz29_3 hfz29_4 hfz29_5 hfz29_6 hfz29_7); (try clear hcz37_0 hcz37_1 hfz37_0 hfz37_1); (try clear hcz41_0 hcz41_1 hfz41_0 hfz41_1); (try clear hcz42_0 hcz42_1 hcz42_2 hcz42_3 hcz42_4 hcz42_5 hcz42_6 hcz42_7 hfz42_0 hfz42_1 hfz42_2 hfz42_3 hfz42_4 hfz42_5 hfz42_6 hfz42_7); (try clear hcz44_0 hcz44_1 hfz44_0 hfz44_1); (try clear hcz45_0 hcz45_1 hcz45_2 hcz45_3 hcz45_4 hcz45_5 hcz45_6 hcz45_7 hfz45_0 hfz45_1 hfz45_2 hfz45_3 hfz45_4 hfz45_5 hfz45_6 hfz45_7); (try clear hcz47_0 hcz47_1 hfz47_0 hfz47_1); (try clear hcz48_0 hcz48_1 hcz48_2 hcz48_3 hcz48_4 hcz48_5 hcz48_6 hcz48_7 hfz48_0 hfz48_1 hfz48_2 hfz48_3 hfz48_4 hfz48_5 hfz48_6 hfz48_7)
         obtain ⟨kq, x69_33, rfl, HA, HJ33, BK474, BK481, HB⟩ := hcut
         cases kq with
         | zero => exact absurd HA.out (by simp [spec_Steady.j2])
         | succ kj33 =>
          have H := HA.out
          clear HA
          simp only [spec_Steady.j2] at H
          by_cases c49 : x69_33 = true
          ·subst c49
           rw [if_pos rfl] at H
           by_cases c50 : ((rd_T109 l1 x13_2).f0) > (wrap64 (a2 - a0_5))
           ·rw [if_pos c50] at H
            have c50b0 : decide ((wrap64 (a2 - a0_5)) < ((rd_T109 l1 x13_2).f0)) = true := decide_eq_true c50
            clear c50
            by_cases c51 : ((rd_T109 l1 x13_2).f0) ≤ a2
            ·rw [if_pos c51] at H
             have c51b0 : decide (((rd_T109 l1 x13_2).f0) ≤ a2) = true := decide_eq_true c51
             clear c51
             by_cases c52 : ((rd_T109 l1 x13_2).f1) > x12_2
             ·rw [if_pos c52] at H
              have c52b0 : decide (x12_2 < ((rd_T109 l1 x13_2).f1)) = true := decide_eq_true c52
              clear c52
              have H' := ak_ H
              clear H
              have hnb53 := NB481_474.out
              have hnc53 := NB474_481.out
              obtain ⟨hcz54_0, hcz54_1, hfz54_0, hfz54_1⟩ := bc2_ BK481.out
              obtain ⟨hcz55_0, hcz55_1, hcz55_2, hcz55_3, hcz55_4, hcz55_5, hcz55_6, hcz55_7, hfz55_0, hfz55_1, hfz55_2, hfz55_3, hfz55_4, hfz55_5, hfz55_6, hfz55_7⟩ := bc8_ BK474.out
              go_wp2
              go_roundg kj33
              case measure => have := HJ5.out; have := HK2.out; have := HJ33.out; omega
              case rel => exact ⟨(((rd_T109 l1 x13_2).f1)), (((rd_T109 l1 x13_2).f1)), (wrap64 (x13_2 + 1)), (by first | rfl | (simp; done) | (simp [*]; done)), (by first | rfl | (simp; done) | (simp [*]; done)), (by first | rfl | (simp; done) | (simp [*]; done)), H', ⟨by have := HJ5.out; have := HK2.out; have := HJ33.out; omega⟩, ⟨by (with_reducible repeat (first | refine kn_ ?_ _ | refine kd_ ?_ | refine ka_ ?_ _)); exact BK474.out⟩, ⟨hb_⟩⟩
             ·rw [if_neg c52] at H
              have c52b0 : decide (x12_2 < ((rd_T109 l1 x13_2).f1)) = false := decide_eq_false c52
              clear c52
              have H' := ak_ H
              clear H
              have hnb56 := NB481_474.out
              have hnc56 := NB474_481.out
              obtain ⟨hcz57_0, hcz57_1, hfz57_0, hfz57_1⟩ := bc2_ BK481.out
              obtain ⟨hcz58_0, hcz58_1, hcz58_2, hcz58_3, hcz58_4, hcz58_5, hcz58_6, hcz58_7, hfz58_0, hfz58_1, hfz58_2, hfz58_3, hfz58_4, hfz58_5, hfz58_6, hfz58_7⟩ := bc8_ BK474.out
              go_wp2
              go_roundg kj33
              case measure => have := HJ5.out; have := HK2.out; have := HJ33.out; omega
              case rel => exact ⟨(((rd_T109 l1 x13_2).f1)), (x12_2), (wrap64 (x13_2 + 1)), (by first | rfl | (simp; done) | (simp [*]; done)), (by first | rfl | (simp; done) | (simp [*]; done)), (by first | rfl | (simp; done) | (simp [*]; done)), H', ⟨by have := HJ5.out; have := HK2.out; have := HJ33.out; omega⟩, ⟨by (with_reducible repeat (first | refine kn_ ?_ _ | refine kd_ ?_ | refine ka_ ?_ _)); exact BK474.out⟩, ⟨hb_⟩⟩
            ·rw [if_neg c51] at H
             have c51b0 : decide (((rd_T109 l1 x13_2).f0) ≤ a2) = false := decide_eq_false c51
             clear c51
             have H' := ak_ H
             clear H
             have hnb59 := NB481_474.out
             have hnc59 := NB474_481.out
             obtain ⟨hcz60_0, hcz60_1, hfz60_0, hfz60_1⟩ := bc2_ BK481.out
             obtain ⟨hcz61_0, hcz61_1, hcz61_2, hcz61_3, hcz61_4, hcz61_5, hcz61_6, hcz61_7, hfz61_0, hfz61_1, hfz61_2, hfz61_3, hfz61_4, hfz61_5, hfz61_6, hfz61_7⟩ := bc8_ BK474.out
             go_wp2
             go_roundg kj33
             case measure => have := HJ5.out; have := HK2.out; have := HJ33.out; omega
             case rel => exact ⟨(((rd_T109 l1 x13_2).f1)), (x12_2), (wrap64 (x13_2 + 1)), (by first | rfl | (simp; done) | (simp [*]; done)), (by first | rfl | (simp; done) | (simp [*]; done)), (by first | rfl | (simp; done) | (simp [*]; done)), H', ⟨by have := HJ5.out; have := HK2.out; have := HJ33.out; omega⟩, ⟨by (with_reducible repeat (first | refine kn_ ?_ _ | refine kd_ ?_ | refine ka_ ?_ _)); exact BK474.out⟩, ⟨hb_⟩⟩
           ·rw [if_neg c50] at H
            have c50b0 : decide ((wrap64 (a2 - a0_5)) < ((rd_T109 l1 x13_2).f0)) = false := decide_eq_false c50
            clear c50
            have H' := ak_ H
            clear H
            have hnb62 := NB481_474.out
            have hnc62 := NB474_481.out
            obtain ⟨hcz63_0, hcz63_1, hfz63_0, hfz63_1⟩ := bc2_ BK481.out
            obtain ⟨hcz64_0, hcz64_1, hcz64_2, hcz64_3, hcz64_4, hcz64_5, hcz64_6, hcz64_7, hfz64_0, hfz64_1, hfz64_2, hfz64_3, hfz64_4, hfz64_5, hfz64_6, hfz64_7⟩ := bc8_ BK474.out
            go_wp2
            go_roundg kj33
            case measure => have := HJ5.out; have := HK2.out; have := HJ33.out; omega
            case rel => exact ⟨(((rd_T109 l1 x13_2).f1)), (x12_2), (wrap64 (x13_2 + 1)), (by first | rfl | (simp; done) | (simp [*]; done)), (by first | rfl | (simp; done) | (simp [*]; done)), (by first | rfl | (simp; done) | (simp [*]; done)), H', ⟨by have := HJ5.out; have := HK2.out; have := HJ33.out; omega⟩, ⟨by (with_reducible repeat (first | refine kn_ ?_ _ | refine kd_ ?_ | refine ka_ ?_ _)); exact BK474.out⟩, ⟨hb_⟩⟩
          ·replace c49 := Bool.eq_false_iff.mpr c49
           subst c49
           rw [if_neg (show ¬ (false = true) by decide)] at H
           by_cases c65 : ((rd_T109 l1 x13_2).f0) > (wrap64 (a2 - a0_5))
           ·rw [if_pos c65] at H
            have c65b0 : decide ((wrap64 (a2 - a0_5)) < ((rd_T109 l1 x13_2).f0)) = true := decide_eq_true c65
            clear c65
            by_cases c66 : ((rd_T109 l1 x13_2).f0) ≤ a2
            ·rw [if_pos c66] at H
             have c66b0 : decide (((rd_T109 l1 x13_2).f0) ≤ a2) = true := decide_eq_true c66
             clear c66
             by_cases c67 : ((rd_T109 l1 x13_2).f1) > x12_2
             ·rw [if_pos c67] at H
              have c67b0 : decide (x12_2 < ((rd_T109 l1 x13_2).f1)) = true := decide_eq_true c67
              clear c67
              have H' := ak_ H
              clear H
              have hnb68 := NB481_474.out
              have hnc68 := NB474_481.out
              obtain ⟨hcz69_0, hcz69_1, hfz69_0, hfz69_1⟩ := bc2_ BK481.out
              obtain ⟨hcz70_0, hcz70_1, hcz70_2, hcz70_3, hcz70_4, hcz70_5, hcz70_6, hcz70_7, hfz70_0, hfz70_1, hfz70_2, hfz70_3, hfz70_4, hfz70_5, hfz70_6, hfz70_7⟩ := bc8_ BK474.out
              go_wp2
              go_roundg kj33
              case measure => have := HJ5.out; have := HK2.out; have := HJ33.out; omega
              case rel => exact ⟨(x11_2), (((rd_T109 l1 x13_2).f1)), (wrap64 (x13_2 + 1)), (by first | rfl | (simp; done) | (simp [*]; done)), (by first | rfl | (simp; done) | (simp [*]; done)), (by first | rfl | (simp; done) | (simp [*]; done)), H', ⟨by have := HJ5.out; have := HK2.out; have := HJ33.out; omega⟩, ⟨by (with_reducible repeat (first | refine kn_ ?_ _ | refine kd_ ?_ | refine ka_ ?_ _)); exact BK474.out⟩, ⟨hb_⟩⟩
             ·rw [if_neg c67] at H
              have c67b0 : decide (x12_2 < ((rd_T109 l1 x13_2).f1)) = false := decide_eq_false c67
              clear c67
              have H' := ak_ H
              clear H
              have hnb71 := NB481_474.out
              have hnc71 := NB474_481.out
              obtain ⟨hcz72_0, hcz72_1, hfz72_0, hfz72_1⟩ := bc2_ BK481.out
              obtain ⟨hcz73_0, hcz73_1, hcz73_2, hcz73_3, hcz73_4, hcz73_5, hcz73_6, hcz73_7, hfz73_0, hfz73_1, hfz73_2, hfz73_3, hfz73_4, hfz73_5, hfz73_6, hfz73_7⟩ := bc8_ BK474.out
              go_wp2
              go_roundg kj33
              case measure => have := HJ5.out; have := HK2.out; have := HJ33.out; omega
              case rel => exact ⟨(x11_2), (x12_2), (wrap64 (x13_2 + 1)), (by first | rfl | (simp; done) | (simp [*]; done)), (by first | rfl | (simp; done) | (simp [*]; done)), (by first | rfl | (simp; done) | (simp [*]; done)), H', ⟨by have := HJ5.out; have := HK2.out; have := HJ33.out; omega⟩, ⟨by (with_reducible repeat (first | refine kn_ ?_ _ | refine kd_ ?_ | refine ka_ ?_ _)); exact BK474.out⟩, ⟨hb_⟩⟩
            ·rw [if_neg c66] at H
             have c66b0 : decide (((rd_T109 l1 x13_2).f0) ≤ a2) = false := decide_eq_false c66
             clear c66
             have H' := ak_ H
             clear H
             have hnb74 := NB481_474.out
             have hnc74 := NB474_481.out
             obtain ⟨hcz75_0, hcz75_1, hfz75_0, hfz75_1⟩ := bc2_ BK481.out
             obtain ⟨hcz76_0, hcz76_1, hcz76_2, hcz76_3, hcz76_4, hcz76_5, hcz76_6, hcz76_7, hfz76_0, hfz76_1, hfz76_2, hfz76_3, hfz76_4, hfz76_5, hfz76_6, hfz76_7⟩ := bc8_ BK474.out
             go_wp2
             go_roundg kj33
             case measure => have := HJ5.out; have := HK2.out; have := HJ33.out; omega
             case rel => exact ⟨(x11_2), (x12_2), (wrap64 (x13_2 + 1)), (by first | rfl | (simp; done) | (simp [*]; done)), (by first | rfl | (simp; done) | (simp [*]; done)), (by first | rfl | (simp; done) | (simp [*]; done)), H', ⟨by have := HJ5.out; have := HK2.out; have := HJ33.out; omega⟩, ⟨by (with_reducible repeat (first | refine kn_ ?_ _ | refine kd_ ?_ | refine ka_ ?_ _)); exact BK474.out⟩, ⟨hb_⟩⟩
           ·rw [if_neg c65] at H
            have c65b0 : decide ((wrap64 (a2 - a0_5)) < ((rd_T109 l1 x13_2).f0)) = false := decide_eq_false c65
            clear c65
            have H' := ak_ H
            clear H
            have hnb77 := NB481_474.out
            have hnc77 := NB474_481.out
            obtain ⟨hcz78_0, hcz78_1, hfz78_0, hfz78_1⟩ := bc2_ BK481.out
            obtain ⟨hcz79_0, hcz79_1, hcz79_2, hcz79_3, hcz79_4, hcz79_5, hcz79_6, hcz79_7, hfz79_0, hfz79_1, hfz79_2, hfz79_3, hfz79_4, hfz79_5, hfz79_6, hfz79_7⟩ := bc8_ BK474.out
            go_wp2
            go_roundg kj33
            case measure => have := HJ5.out; have := HK2.out; have := HJ33.out; omega
            case rel => exact ⟨(x11_2), (x12_2), (wrap64 (x13_2 + 1)), (by first | rfl | (simp; done) | (simp [*]; done)), (by first | rfl | (simp; done) | (simp [*]; done)), (by first | rfl | (simp; done) | (simp [*]; done)), H', ⟨by have := HJ5.out; have := HK2.out; have := HJ33.out; omega⟩, ⟨by (with_reducible repeat (first | refine kn_ ?_ _ | refine kd_ ?_ | refine ka_ ?_ _)); exact BK474.out⟩, ⟨hb_⟩⟩
       ·rw [if_neg c33] at H
        exact absurd H (by simp)
      ·rw [if_neg c32] at H
       have c32b0 : decide (x13_2 < (l1.length : Int)) = false := decide_eq_false c32
       clear c32
       by_cases c80 : a3 < x11_2
       ·rw [if_pos c80] at H
        have c80b0 : decide (a3 < x11_2) = true := decide_eq_true c80
        clear c80
        obtain rfl := Option.some.inj H
        go_wp2
        go_ret
        exact ⟨ew_, hb_⟩
       ·rw [if_neg c80] at H
        have c80b0 : decide (a3 < x11_2) = false := decide_eq_false c80
        clear c80
        by_cases c81 : a3 > x12_2
        ·rw [if_pos c81] at H
         have c81b0 : decide (x12_2 < a3) = true := decide_eq_true c81
         clear c81
         obtain rfl := Option.some.inj H
         go_wp2
         go_ret
         exact ⟨ew_, hb_⟩
        ·rw [if_neg c81] at H
         have c81b0 : decide (x12_2 < a3) = false := decide_eq_false c81
         clear c81
         obtain rfl := Option.some.inj H
         go_wp2
         go_ret
         exact ⟨ew_, hb_⟩

end Go.Proofs.Ytfjjlipfjddaiaa.Bo
